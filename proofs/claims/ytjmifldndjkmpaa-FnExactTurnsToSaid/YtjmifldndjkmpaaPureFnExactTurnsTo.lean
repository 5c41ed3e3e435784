/- The program's TurnsTo answers as the reference's, for all arguments; no condition. -/
import Derived.Test.YtjmifldndjkmpaaPx7
import Derived.Test.YtjmifldndjkmpaaPx30
import Derived.Test.YtjmifldndjkmpaaLTurnsTo
namespace Go.Proofs.Ytjmifldndjkmpaa.Pure
open Go.RowKit Go.Proofs.Ytjmifldndjkmpaa.P Go.Proofs.Ytjmifldndjkmpaa.Help Go.Proofs.Ytjmifldndjkmpaa.L
theorem FnExactTurnsTo : ∀ (a0_0 a0_1 : Int), I64 a0_0 → I64 a0_1 → ∃ k, laws_FnExactTurnsTo.f k a0_0 a0_1 = some true := by
  intro p q _ _
  refine ⟨2002, ?_⟩
  unfold laws_FnExactTurnsTo.f laws_toSlope.f
  simp only [Option.bind_some]
  rw [spec_turnsTo _ _ 2002 (by decide), impl_turnsTo _ _ 2002 (by decide)]
  simp
end Go.Proofs.Ytjmifldndjkmpaa.Pure
