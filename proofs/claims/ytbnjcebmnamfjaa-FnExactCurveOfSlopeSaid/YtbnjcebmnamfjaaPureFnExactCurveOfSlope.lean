/- The program's CurveOfSlope answers as the reference's, for all arguments; no condition. -/
import Derived.Test.YtbnjcebmnamfjaaPx3
import Derived.Test.YtbnjcebmnamfjaaPx43
import Derived.Test.YtbnjcebmnamfjaaLCurveS
import Derived.Test.YtbnjcebmnamfjaaLEqI
import Derived.Test.YtbnjcebmnamfjaaLMark
namespace Go.Proofs.Ytbnjcebmnamfjaa.Pure
open Go.RowKit Go.Proofs.Ytbnjcebmnamfjaa.P Go.Proofs.Ytbnjcebmnamfjaa.Help Go.Proofs.Ytbnjcebmnamfjaa.L
theorem FnExactCurveOfSlope : ∀ (a0_0 a0_1 : Int) (a1 : Int), I64 a0_0 → I64 a0_1 → I64 a1 → ∃ k, laws_FnExactCurveOfSlope.f k a0_0 a0_1 a1 = some true := by
  intro p q n _ _ _
  refine ⟨1060010, ?_⟩
  have hl := curveR_len p q n
  unfold laws_FnExactCurveOfSlope.f laws_toSlope.f
  simp only [Option.bind_some]
  rw [spec_curve p q n _ (by omega)]
  simp only [Option.bind_some]
  rw [impl_curve p q n _ (by omega)]
  simp only [Option.bind_some]
  rw [eqIntS_self _ (by omega) _ (by omega)]
  simp only [Option.bind_some, if_true, bne_self_eq_false]
  simp only [laws_FnExactCurveOfSlope.j0, laws_toSlope.f, Bool.false_eq_true, if_false]
  rw [markIntS_f _ (by omega) 1 (by omega) _ (by omega)]
  simp only [Option.bind_some]
  rw [heldIntS_f _ (by omega) 1 (by omega) _ (by omega)]
  simp only [Option.bind_some, if_true]
  rw [if_neg (by omega), impl_curve p q n _ (by omega)]
  simp only [Option.bind_some]
  rw [eqIntS_self _ (by omega) _ (by omega)]
  simp only [Option.bind_some, if_true, bne_self_eq_false]
  simp only [laws_FnExactCurveOfSlope.j1, Bool.false_eq_true, if_false]
  rw [heldIntS_f _ (by omega) 1 (by omega) _ (by omega)]
  simp only [Option.bind_some, if_true]
  rw [if_neg (by omega)]
end Go.Proofs.Ytbnjcebmnamfjaa.Pure
