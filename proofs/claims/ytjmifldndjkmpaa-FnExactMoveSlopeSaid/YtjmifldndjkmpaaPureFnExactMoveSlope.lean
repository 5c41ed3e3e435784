/- The program's MoveSlope answers as the reference's, for all arguments; no condition. -/
import Derived.Test.YtjmifldndjkmpaaPx4
import Derived.Test.YtjmifldndjkmpaaPx7
import Derived.Test.YtjmifldndjkmpaaPx36
import Derived.Test.YtjmifldndjkmpaaLMove
import Derived.Test.YtjmifldndjkmpaaLEqS
namespace Go.Proofs.Ytjmifldndjkmpaa.Pure
open Go.RowKit Go.Proofs.Ytjmifldndjkmpaa.P Go.Proofs.Ytjmifldndjkmpaa.Help Go.Proofs.Ytjmifldndjkmpaa.L
theorem FnExactMoveSlope : ∀ (a0_0 a0_1 a0_2 a0_3 : Int) (a1_0 a1_1 : Int), I64 a0_0 → I64 a0_1 → I64 a0_2 → I64 a0_3 → I64 a1_0 → I64 a1_1 → ∃ k, laws_FnExactMoveSlope.f k a0_0 a0_1 a0_2 a0_3 a1_0 a1_1 = some true := by
  intro a b c d p q _ _ _ _ _ _
  refine ⟨1002, ?_⟩
  unfold laws_FnExactMoveSlope.f laws_toMatrix.f laws_toSlope.f
  simp only [Option.bind_some]
  rw [spec_move _ _ _ _ _ _ 1002 (by decide), impl_move _ _ _ _ _ _ 1002 (by decide)]
  simp [eqS_self]
end Go.Proofs.Ytjmifldndjkmpaa.Pure
