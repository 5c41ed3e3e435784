/- The program's CrossSum answers as the reference's, for all arguments; no condition. -/
import Derived.Test.YtcligopbieaceaaPx2
import Derived.Test.YtcligopbieaceaaLSum
import Derived.Test.YtcligopbieaceaaLInts
namespace Go.Proofs.Ytcligopbieaceaa.Pure
open Go.RowKit Go.Proofs.Ytcligopbieaceaa.P Go.Proofs.Ytcligopbieaceaa.Help Go.Proofs.Ytcligopbieaceaa.L
theorem FnExactCrossSum : ∀ (l0 : List Int), l0.length ≤ 9223372036854775807 → (∀ x ∈ l0, I64 x) → ∃ k, laws_FnExactCrossSum.f k l0 = some true := by
  intro w _ _
  refine ⟨1048578, ?_⟩
  unfold laws_FnExactCrossSum.f
  by_cases h : (w.length : Int) > 1048576
  · rw [if_pos h]
  · rw [if_neg h, toIntS_f w (by omega) _ (by omega), Option.bind_some, spec_sum w (by omega) _ (by omega)]
    simp only [Option.bind_some]
    rw [impl_sum w (by omega) _ (by omega)]
    simp only [Option.bind_some, if_true]
    rw [eqIntS_self w (by omega) _ (by omega)]
    rfl
end Go.Proofs.Ytcligopbieaceaa.Pure
