/- The program's CommonNeighbours answers as the reference's, for all arguments; no condition. -/
import Derived.Test.YtjmifldndjkmpaaPx7
import Derived.Test.YtjmifldndjkmpaaPx43
import Derived.Test.YtjmifldndjkmpaaLCommon
import Derived.Test.YtjmifldndjkmpaaLList
namespace Go.Proofs.Ytjmifldndjkmpaa.Pure
open Go.RowKit Go.Proofs.Ytjmifldndjkmpaa.P Go.Proofs.Ytjmifldndjkmpaa.Help Go.Proofs.Ytjmifldndjkmpaa.L
theorem FnExactCommonNeighbours : ∀ (a0_0 a0_1 : Int) (a1_0 a1_1 : Int), I64 a0_0 → I64 a0_1 → I64 a1_0 → I64 a1_1 → ∃ k, laws_FnExactCommonNeighbours.f k a0_0 a0_1 a1_0 a1_1 = some true := by
  intro p q r s _ _ _ _
  refine ⟨1010, ?_⟩
  have hl := commonR_len p q r s
  unfold laws_FnExactCommonNeighbours.f laws_toSlope.f
  simp only [Option.bind_some]
  rw [spec_common _ _ _ _ 1010 (by decide), impl_common _ _ _ _ 1010 (by decide)]
  simp only [Option.bind_some]
  rw [eqSlopeS_self _ (by omega) _ (by omega)]
  simp only [Option.bind_some, if_true]
  rw [mark_f _ (by omega) _ (by omega)]
  simp only [Option.bind_some]
  rw [held_f _ (by omega) _ (by omega)]
  simp only [Option.bind_some]
  rw [if_neg (by omega)]
  simp only [if_true]
  rw [if_neg (by omega)]
end Go.Proofs.Ytjmifldndjkmpaa.Pure
