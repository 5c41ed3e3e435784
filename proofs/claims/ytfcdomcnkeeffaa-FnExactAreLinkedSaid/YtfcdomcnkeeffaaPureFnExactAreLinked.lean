/- The program's AreLinked answers as the reference's, for all arguments; no condition. -/
import Derived.Test.YtfcdomcnkeeffaaPx30
import Derived.Test.YtfcdomcnkeeffaaLPlaces
import Derived.Test.YtfcdomcnkeeffaaLInts
namespace Go.Proofs.Ytfcdomcnkeeffaa.Pure
open Go.RowKit Go.Proofs.Ytfcdomcnkeeffaa.P Go.Proofs.Ytfcdomcnkeeffaa.Help Go.Proofs.Ytfcdomcnkeeffaa.L
theorem FnExactAreLinked : ∀ (l0 : List Int) (a1 : Int) (a2 : Int), l0.length ≤ 9223372036854775807 → (∀ x ∈ l0, I64 x) → I64 a1 → I64 a2 → ∃ k, laws_FnExactAreLinked.f k l0 a1 a2 = some true := by
  intro w x y _ _ _ _
  refine ⟨1048578, ?_⟩
  unfold laws_FnExactAreLinked.f
  by_cases h : (w.length : Int) > 1048576
  · rw [if_pos h]
  · rw [if_neg h, toIntS_f w (by omega) _ (by omega), Option.bind_some, spec_linked w (by omega) x y _ (by omega)]
    simp only [Option.bind_some]
    rw [impl_linkedA w (by omega) x y _ (by omega)]
    simp only [Option.bind_some, bne_self_eq_false, Bool.false_eq_true, if_false]
    rw [eqIntS_self w (by omega) _ (by omega)]
    rfl
end Go.Proofs.Ytfcdomcnkeeffaa.Pure
