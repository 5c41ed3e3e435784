/- What the statements' own copying, comparing and marking of slices of whole numbers computes; no condition but the number of rounds and the slices' lengths. -/
import Derived.Test.YtbnjcebmnamfjaaPx42
import Derived.Test.YtbnjcebmnamfjaaLBase
namespace Go.Proofs.Ytbnjcebmnamfjaa.L
open Go.RowKit Go.Proofs.Ytbnjcebmnamfjaa.P Go.Proofs.Ytbnjcebmnamfjaa.Help Go.Proofs.YtbnjcebmnamfjaaW.PrintWords
set_option linter.unusedVariables false
set_option linter.unusedSimpArgs false

theorem eqIntS_l0 (xs : List Int) (hx : xs.length ≤ 1000000000000) : ∀ (d k i : Nat), i + d = xs.length → d < k → laws_eqIntS.l0 k xs xs (i : Int) = some true := by
  intro d
  induction d with
  | zero =>
    intro k i hi hk
    obtain ⟨k, rfl⟩ : ∃ m, k = m + 1 := ⟨k - 1, by omega⟩
    simp only [laws_eqIntS.l0]
    rw [if_neg (by omega)]
  | succ d ih =>
    intro k i hi hk
    obtain ⟨k, rfl⟩ : ∃ m, k = m + 1 := ⟨k - 1, by omega⟩
    simp only [laws_eqIntS.l0]
    rw [if_pos (by omega), if_pos (by omega), if_pos (by omega)]
    simp only [if_true]
    rw [w_id (by omega) (by omega), show ((i : Int) + 1) = ((i + 1 : Nat) : Int) by omega, ih k (i + 1) (by omega) (by omega)]
theorem eqIntS_self (xs : List Int) (hx : xs.length ≤ 1048576) (k : Nat) (hk : 1048576 < k) : laws_eqIntS.f k xs xs = some true := by
  unfold laws_eqIntS.f
  rw [if_pos rfl]
  exact eqIntS_l0 xs (by omega) xs.length k 0 (by omega) (by omega)
end Go.Proofs.Ytbnjcebmnamfjaa.L
