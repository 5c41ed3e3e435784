/- The program's ParentsOf answers as the reference's, for all arguments; no condition. -/
import Derived.Test.YtjmifldndjkmpaaPx7
import Derived.Test.YtjmifldndjkmpaaPx39
import Derived.Test.YtjmifldndjkmpaaLPar
import Derived.Test.YtjmifldndjkmpaaLList
namespace Go.Proofs.Ytjmifldndjkmpaa.Pure
open Go.RowKit Go.Proofs.Ytjmifldndjkmpaa.P Go.Proofs.Ytjmifldndjkmpaa.Help Go.Proofs.Ytjmifldndjkmpaa.L
theorem FnExactParentsOf : ∀ (a0_0 a0_1 : Int), I64 a0_0 → I64 a0_1 → ∃ k, laws_FnExactParentsOf.f k a0_0 a0_1 = some true := by
  intro p q _ _
  refine ⟨1010, ?_⟩
  have hl := parR_len p q
  unfold laws_FnExactParentsOf.f laws_toSlope.f
  simp only [Option.bind_some]
  rw [spec_parents _ _ 1010 (by decide), impl_parents _ _ 1010 (by decide)]
  simp only [Option.bind_some]
  rw [eqSlopeS_self _ (by omega) _ (by omega)]
  simp only [Option.bind_some, if_true, bne_self_eq_false]
  simp only [laws_FnExactParentsOf.j0, laws_toSlope.f, Option.bind_some]
  rw [if_neg (by decide), mark_f _ (by omega) _ (by omega)]
  simp only [Option.bind_some]
  rw [held_f _ (by omega) _ (by omega)]
  simp only [Option.bind_some]
  rw [if_neg (by omega), if_pos trivial, impl_parents _ _ 1009 (by decide)]
  simp only [Option.bind_some]
  rw [eqSlopeS_self _ (by omega) _ (by omega)]
  simp only [Option.bind_some, if_true, bne_self_eq_false]
  simp only [laws_FnExactParentsOf.j1]
  rw [if_neg (by decide), held_f _ (by omega) _ (by omega)]
  simp only [Option.bind_some]
  rw [if_neg (by omega), if_pos trivial]
end Go.Proofs.Ytjmifldndjkmpaa.Pure
