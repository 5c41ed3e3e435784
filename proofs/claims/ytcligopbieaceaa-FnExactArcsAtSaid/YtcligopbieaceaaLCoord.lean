/- What areCoordinates computes; no condition but the number of rounds and the length. -/
import Derived.Test.YtcligopbieaceaaPx8
import Derived.Test.YtcligopbieaceaaLIn
namespace Go.Proofs.Ytcligopbieaceaa.L
open Go.RowKit Go.Proofs.Ytcligopbieaceaa.P Go.Proofs.Ytcligopbieaceaa.Help Go.Proofs.YtcligopbieaceaaW.PrintWords
set_option linter.unusedVariables false
set_option linter.unusedSimpArgs false

def co (x : Int) : Bool := decide (0 ≤ x ∧ x ≤ 200)
theorem areCo_l0 (xs : List Int) (hx : xs.length ≤ 1000000000) : ∀ (d k i : Nat), i + d = xs.length → d < k → impl_areCoordinates.l0 k xs (xs.length : Int) (i : Int) = some ((xs.drop i).all co) := by
  intro d
  induction d with
  | zero =>
    intro k i hi hk
    obtain ⟨k, rfl⟩ : ∃ m, k = m + 1 := ⟨k - 1, by omega⟩
    simp only [impl_areCoordinates.l0]
    rw [if_neg (by omega), List.drop_of_length_le (by omega)]
    rfl
  | succ d ih =>
    intro k i hi hk
    obtain ⟨k, rfl⟩ : ∃ m, k = m + 1 := ⟨k - 1, by omega⟩
    have hlt : i < xs.length := by omega
    simp only [impl_areCoordinates.l0]
    rw [if_pos (by omega), if_pos (by omega), if_pos (by omega), within_eq, Option.bind_some, w_id (by omega) (by omega), show ((i : Int) + 1) = ((i + 1 : Nat) : Int) by omega, ih k (i + 1) (by omega) (by omega), List.drop_eq_getElem_cons hlt, List.all_cons, rd_nat xs i hlt]
    unfold co
    by_cases h : 0 ≤ xs[i] ∧ xs[i] ≤ 200 <;> simp [h]
theorem areCo (xs : List Int) (hx : xs.length ≤ 1000000000) (k : Nat) (hk : xs.length < k) : impl_areCoordinates.f k xs = some (xs.all co) := by
  unfold impl_areCoordinates.f
  have := areCo_l0 xs hx xs.length k 0 (by omega) hk
  rw [List.drop_zero] at this
  exact this
theorem co_true {x : Int} (h : co x = true) : 0 ≤ x ∧ x ≤ 200 := of_decide_eq_true h
theorem all_co {xs : List Int} (h : xs.all co = true) : ∀ x ∈ xs, 0 ≤ x ∧ x ≤ 200 := fun x hx => co_true (List.all_eq_true.1 h x hx)
end Go.Proofs.Ytcligopbieaceaa.L
