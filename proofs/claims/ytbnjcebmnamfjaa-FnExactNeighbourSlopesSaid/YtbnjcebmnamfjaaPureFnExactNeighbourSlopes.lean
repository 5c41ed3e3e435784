/- The program's NeighbourSlopes answers as the reference's, for all arguments; no condition. -/
import Derived.Test.YtbnjcebmnamfjaaPx3
import Derived.Test.YtbnjcebmnamfjaaPx24
import Derived.Test.YtbnjcebmnamfjaaLNeigh
import Derived.Test.YtbnjcebmnamfjaaLList
namespace Go.Proofs.Ytbnjcebmnamfjaa.Pure
open Go.RowKit Go.Proofs.Ytbnjcebmnamfjaa.P Go.Proofs.Ytbnjcebmnamfjaa.Help Go.Proofs.Ytbnjcebmnamfjaa.L
theorem FnExactNeighbourSlopes : ∀ (a0_0 a0_1 : Int) (a1 : Int), I64 a0_0 → I64 a0_1 → I64 a1 → ∃ k, laws_FnExactNeighbourSlopes.f k a0_0 a0_1 a1 = some true := by
  intro p q n _ _ _
  refine ⟨30010, ?_⟩
  have hl := neighR_len p q n
  unfold laws_FnExactNeighbourSlopes.f laws_toSlope.f
  simp only [Option.bind_some]
  rw [spec_neigh _ _ _ 30010 (by decide), impl_neigh _ _ _ 30010 (by decide)]
  simp only [Option.bind_some]
  rw [eqSlopeS_self _ (by omega) _ (by omega)]
  simp only [Option.bind_some, if_true]
  rw [mark_f _ (by omega) _ (by omega)]
  simp only [Option.bind_some]
  rw [held_f _ (by omega) _ (by omega)]
  simp only [Option.bind_some]
  rw [if_neg (by omega)]
  simp only [if_true]
  rw [if_neg (by omega)]
end Go.Proofs.Ytbnjcebmnamfjaa.Pure
