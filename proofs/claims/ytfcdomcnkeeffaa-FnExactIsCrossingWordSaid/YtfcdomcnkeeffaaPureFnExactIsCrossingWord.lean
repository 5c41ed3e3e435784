/- The program's IsCrossingWord answers as the reference's, for all arguments; no condition. -/
import Derived.Test.YtfcdomcnkeeffaaPx29
import Derived.Test.YtfcdomcnkeeffaaLWord
import Derived.Test.YtfcdomcnkeeffaaLInts
namespace Go.Proofs.Ytfcdomcnkeeffaa.Pure
open Go.RowKit Go.Proofs.Ytfcdomcnkeeffaa.P Go.Proofs.Ytfcdomcnkeeffaa.Help Go.Proofs.Ytfcdomcnkeeffaa.L
theorem FnExactIsCrossingWord : ∀ (l0 : List Int), l0.length ≤ 9223372036854775807 → (∀ x ∈ l0, I64 x) → ∃ k, laws_FnExactIsCrossingWord.f k l0 = some true := by
  intro w _ _
  refine ⟨1048578, ?_⟩
  unfold laws_FnExactIsCrossingWord.f
  by_cases h : (w.length : Int) > 1048576
  · rw [if_pos h]
  · rw [if_neg h, toIntS_f w (by omega) _ (by omega), Option.bind_some, spec_cw w (by omega) _ (by omega)]
    simp only [Option.bind_some]
    rw [impl_cw w (by omega) _ (by omega)]
    simp only [Option.bind_some, bne_self_eq_false, Bool.false_eq_true, if_false]
    rw [eqIntS_self w (by omega) _ (by omega)]
    rfl
end Go.Proofs.Ytfcdomcnkeeffaa.Pure
