/- The program's KindOf answers as the reference's, for all arguments; no condition. -/
import Derived.Test.YtjmifldndjkmpaaPx2
import Derived.Test.YtjmifldndjkmpaaPx5
import Derived.Test.YtjmifldndjkmpaaLMat
namespace Go.Proofs.Ytjmifldndjkmpaa.Pure
open Go.RowKit Go.Proofs.Ytjmifldndjkmpaa.P Go.Proofs.Ytjmifldndjkmpaa.Help Go.Proofs.Ytjmifldndjkmpaa.L
theorem FnExactKindOf : ∀ (a0_0 a0_1 a0_2 a0_3 : Int), I64 a0_0 → I64 a0_1 → I64 a0_2 → I64 a0_3 → ∃ k, laws_FnExactKindOf.f k a0_0 a0_1 a0_2 a0_3 = some true := by
  intro a b c d _ _ _ _
  refine ⟨6, ?_⟩
  unfold laws_FnExactKindOf.f laws_toMatrix.f
  simp only [Option.bind_some]
  rw [spec_kind _ _ _ _ 6 (by decide), impl_kind _ _ _ _ 6 (by decide)]
  simp
end Go.Proofs.Ytjmifldndjkmpaa.Pure
