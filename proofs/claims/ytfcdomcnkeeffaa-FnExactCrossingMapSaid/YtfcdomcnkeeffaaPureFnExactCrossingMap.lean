/- The program's CrossingMap answers as the reference's, for all arguments; no condition. -/
import Derived.Test.YtfcdomcnkeeffaaPx34
import Derived.Test.YtfcdomcnkeeffaaLCMap
import Derived.Test.YtfcdomcnkeeffaaLInts
import Derived.Test.YtfcdomcnkeeffaaLMark
namespace Go.Proofs.Ytfcdomcnkeeffaa.Pure
open Go.RowKit Go.Proofs.Ytfcdomcnkeeffaa.P Go.Proofs.Ytfcdomcnkeeffaa.Help Go.Proofs.Ytfcdomcnkeeffaa.L
theorem FnExactCrossingMap : ∀ (l0 : List Int) (a1 : Int), l0.length ≤ 9223372036854775807 → (∀ x ∈ l0, I64 x) → I64 a1 → ∃ k, laws_FnExactCrossingMap.f k l0 a1 = some true := by
  intro w x _ _ _
  refine ⟨1060010, ?_⟩
  unfold laws_FnExactCrossingMap.f
  by_cases h : (w.length : Int) > 1048576
  · rw [if_pos h]
  · have hl := cmapR_len w x
    rw [if_neg h, toIntS_f w (by omega) _ (by omega), Option.bind_some, spec_cmap w (by omega) x _ (by omega)]
    simp only [Option.bind_some]
    rw [impl_cmap w (by omega) x _ (by omega)]
    simp only [Option.bind_some]
    rw [eqIntS_self _ (by omega) _ (by omega)]
    simp only [Option.bind_some, if_true, bne_self_eq_false]
    simp only [laws_FnExactCrossingMap.j0, Bool.false_eq_true, if_false]
    rw [toIntS_f w (by omega) _ (by omega)]
    simp only [Option.bind_some]
    rw [eqIntS_self w (by omega) _ (by omega)]
    simp only [Option.bind_some, if_true]
    rw [markIntS_f w (by omega) 1 (by omega) _ (by omega)]
    simp only [Option.bind_some]
    rw [if_neg (by omega), eqIntS_self _ (by omega) _ (by omega)]
    simp only [Option.bind_some, if_true, bne_self_eq_false]
    simp only [laws_FnExactCrossingMap.j1, Bool.false_eq_true, if_false]
    rw [markIntS_f _ (by omega) 1 (by omega) _ (by omega)]
    simp only [Option.bind_some]
    rw [heldIntS_f _ (by omega) 1 (by omega) _ (by omega)]
    simp only [Option.bind_some, if_true]
    rw [if_neg (by omega), toIntS_f w (by omega) _ (by omega)]
    simp only [Option.bind_some]
    rw [impl_cmap w (by omega) x _ (by omega)]
    simp only [Option.bind_some]
    rw [eqIntS_self _ (by omega) _ (by omega)]
    simp only [Option.bind_some, if_true, bne_self_eq_false]
    simp only [laws_FnExactCrossingMap.j2, Bool.false_eq_true, if_false]
    rw [heldIntS_f _ (by omega) 1 (by omega) _ (by omega)]
    simp only [Option.bind_some, if_true]
    rw [if_neg (by omega)]
end Go.Proofs.Ytfcdomcnkeeffaa.Pure
