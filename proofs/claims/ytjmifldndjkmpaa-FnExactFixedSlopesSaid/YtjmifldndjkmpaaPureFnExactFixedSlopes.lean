/- The program's FixedSlopes answers as the reference's, for all arguments; no condition. -/
import Derived.Test.YtjmifldndjkmpaaPx4
import Derived.Test.YtjmifldndjkmpaaPx41
import Derived.Test.YtjmifldndjkmpaaLFixed
import Derived.Test.YtjmifldndjkmpaaLList
namespace Go.Proofs.Ytjmifldndjkmpaa.Pure
open Go.RowKit Go.Proofs.Ytjmifldndjkmpaa.P Go.Proofs.Ytjmifldndjkmpaa.Help Go.Proofs.Ytjmifldndjkmpaa.L
theorem FnExactFixedSlopes : ∀ (a0_0 a0_1 a0_2 a0_3 : Int), I64 a0_0 → I64 a0_1 → I64 a0_2 → I64 a0_3 → ∃ k, laws_FnExactFixedSlopes.f k a0_0 a0_1 a0_2 a0_3 = some true := by
  intro a b c d _ _ _ _
  refine ⟨1010, ?_⟩
  have hl := fixR_len a b c d
  unfold laws_FnExactFixedSlopes.f laws_toMatrix.f
  simp only [Option.bind_some]
  rw [spec_fixed _ _ _ _ 1010 (by decide), impl_fixed _ _ _ _ 1010 (by decide)]
  simp only [Option.bind_some]
  rw [eqSlopeS_self _ (by omega) _ (by omega)]
  simp only [Option.bind_some, if_true]
  rw [mark_f _ (by omega) _ (by omega)]
  simp only [Option.bind_some]
  rw [held_f _ (by omega) _ (by omega)]
  simp only [Option.bind_some]
  rw [if_neg (by omega)]
  simp only [if_true]
  rw [if_neg (by omega)]
end Go.Proofs.Ytjmifldndjkmpaa.Pure
