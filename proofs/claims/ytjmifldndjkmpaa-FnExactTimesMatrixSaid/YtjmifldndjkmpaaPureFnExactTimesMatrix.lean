/- The program's TimesMatrix answers as the reference's, for all arguments; no condition. -/
import Derived.Test.YtjmifldndjkmpaaPx2
import Derived.Test.YtjmifldndjkmpaaPx7
import Derived.Test.YtjmifldndjkmpaaLMat
namespace Go.Proofs.Ytjmifldndjkmpaa.Pure
open Go.RowKit Go.Proofs.Ytjmifldndjkmpaa.P Go.Proofs.Ytjmifldndjkmpaa.Help Go.Proofs.Ytjmifldndjkmpaa.L
theorem FnExactTimesMatrix : ∀ (a0_0 a0_1 a0_2 a0_3 : Int) (a1_0 a1_1 a1_2 a1_3 : Int), I64 a0_0 → I64 a0_1 → I64 a0_2 → I64 a0_3 → I64 a1_0 → I64 a1_1 → I64 a1_2 → I64 a1_3 → ∃ k, laws_FnExactTimesMatrix.f k a0_0 a0_1 a0_2 a0_3 a1_0 a1_1 a1_2 a1_3 = some true := by
  intro a b c d e f g h _ _ _ _ _ _ _ _
  refine ⟨6, ?_⟩
  unfold laws_FnExactTimesMatrix.f laws_toMatrix.f
  simp only [Option.bind_some]
  rw [spec_times _ _ _ _ _ _ _ _ 6 (by decide), impl_times _ _ _ _ _ _ _ _ 6 (by decide)]
  simp [eqM_self]
end Go.Proofs.Ytjmifldndjkmpaa.Pure
