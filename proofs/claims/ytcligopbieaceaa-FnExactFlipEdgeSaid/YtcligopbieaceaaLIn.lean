/- What l1In and within compute. -/
import Derived.Test.YtcligopbieaceaaPx1
import Derived.Test.YtcligopbieaceaaHelp
import Derived.Test.YtcligopbieaceaaLBase
namespace Go.Proofs.Ytcligopbieaceaa.L
open Go.RowKit Go.Proofs.Ytcligopbieaceaa.P Go.Proofs.Ytcligopbieaceaa.Help Go.Proofs.YtcligopbieaceaaW.PrintWords
set_option linter.unusedVariables false
set_option linter.unusedSimpArgs false

theorem l1In_eq (a lo hi : Int) : spec_l1In.f a lo hi = some (decide (lo ≤ a ∧ a ≤ hi)) := by
  unfold spec_l1In.f
  by_cases h : lo ≤ a <;> simp [h]
theorem within_eq (a lo hi : Int) : impl_within.f a lo hi = some (decide (lo ≤ a ∧ a ≤ hi)) := by
  unfold impl_within.f
  by_cases h : lo ≤ a <;> simp [h]
end Go.Proofs.Ytcligopbieaceaa.L
