/- The program's TurnsOf answers as the reference's, for all arguments; no condition. -/
import Derived.Test.YtjmifldndjkmpaaPx34
import Derived.Test.YtjmifldndjkmpaaLTurnsOf
import Derived.Test.YtjmifldndjkmpaaLEqM
namespace Go.Proofs.Ytjmifldndjkmpaa.Pure
open Go.RowKit Go.Proofs.Ytjmifldndjkmpaa.P Go.Proofs.Ytjmifldndjkmpaa.Help Go.Proofs.Ytjmifldndjkmpaa.L
theorem FnExactTurnsOf : ∀ (a0 : ByteArray), a0.size ≤ 140737488351232 → ∃ k, laws_FnExactTurnsOf.f k a0 = some true := by
  intro s hs
  refine ⟨61, ?_⟩
  unfold laws_FnExactTurnsOf.f
  split
  · rfl
  · rw [spec_turnsOf s (by omega) 61 (by decide), impl_turnsOf s (by omega) 61 (by decide)]
    simp [eqM_self]
end Go.Proofs.Ytjmifldndjkmpaa.Pure
