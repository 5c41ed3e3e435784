/- What l3Abs and size compute; no condition but that the number fits. -/
import Derived.Test.YtcligopbieaceaaPx12
import Derived.Test.YtcligopbieaceaaLIn
namespace Go.Proofs.Ytcligopbieaceaa.L
open Go.RowKit Go.Proofs.Ytcligopbieaceaa.P Go.Proofs.Ytcligopbieaceaa.Help Go.Proofs.YtcligopbieaceaaW.PrintWords
set_option linter.unusedVariables false
set_option linter.unusedSimpArgs false

theorem l3Abs_eq {a : Int} (h0 : -9223372036854775807 ≤ a) (h1 : a ≤ 9223372036854775807) : spec_l3Abs.f a = some (a.natAbs : Int) := by
  unfold spec_l3Abs.f spec_l1Max.f
  rw [w_id (by omega) (by omega)]
  by_cases h : a > -a
  · rw [if_pos h]; simp only [Option.bind_some]; congr 1; omega
  · rw [if_neg h]; simp only [Option.bind_some]; congr 1; omega
theorem size_eq {a : Int} (h0 : -9223372036854775807 ≤ a) (h1 : a ≤ 9223372036854775807) : impl_size.f a = some (a.natAbs : Int) := by
  unfold impl_size.f
  rw [w_id (by omega) (by omega)]
  congr 1
  unfold mx
  split <;> omega
end Go.Proofs.Ytcligopbieaceaa.L
