/- What the statements' own marking of slices of whole numbers computes; no condition but the number of rounds and the slices' lengths. -/
import Derived.Test.YtcligopbieaceaaPx7
import Derived.Test.YtcligopbieaceaaLBase
namespace Go.Proofs.Ytcligopbieaceaa.L
open Go.RowKit Go.Proofs.Ytcligopbieaceaa.P Go.Proofs.Ytcligopbieaceaa.Help Go.Proofs.YtcligopbieaceaaW.PrintWords
set_option linter.unusedVariables false
set_option linter.unusedSimpArgs false

/-- n numbers from j on. -/
def markL : Nat → Int → List Int
  | 0, _ => []
  | n + 1, j => j :: markL n (j + 1)
theorem markL_len : ∀ (n : Nat) (j : Int), (markL n j).length = n
  | 0, _ => rfl
  | n + 1, j => by rw [markL, List.length_cons, markL_len n (j + 1)]
theorem markIntS_l0 : ∀ (d k i : Nat) (xs : List Int) (j : Int), i + d = xs.length → d < k → xs.length ≤ 1000000000000 → 0 ≤ j → j + d ≤ 4000000000000000 →
    laws_markIntS.l0 k xs j (i : Int) = some (j + d, xs.take i ++ markL d j) := by
  intro d
  induction d with
  | zero =>
    intro k i xs j hi hk hx hj0 hj
    obtain ⟨k, rfl⟩ : ∃ m, k = m + 1 := ⟨k - 1, by omega⟩
    simp only [laws_markIntS.l0]
    rw [if_neg (by omega), List.take_of_length_le (by omega)]
    simp [markL]
  | succ d ih =>
    intro k i xs j hi hk hx hj0 hj
    obtain ⟨k, rfl⟩ : ∃ m, k = m + 1 := ⟨k - 1, by omega⟩
    simp only [laws_markIntS.l0]
    rw [if_pos (by omega), if_pos (by omega), Int.toNat_natCast, w_id (a := j + 1) (by omega) (by omega), w_id (a := (i : Int) + 1) (by omega) (by omega), show ((i : Int) + 1) = ((i + 1 : Nat) : Int) by omega]
    rw [ih k (i + 1) _ (j + 1) (by rw [List.length_set]; omega) (by omega) (by rw [List.length_set]; omega) (by omega) (by omega)]
    congr 1
    refine Prod.ext ?_ ?_
    · show j + 1 + (d : Int) = j + ((d + 1 : Nat) : Int)
      omega
    · show (xs.set i j).take (i + 1) ++ markL d (j + 1) = xs.take i ++ markL (d + 1) j
      rw [List.take_succ_eq_append_getElem (by rw [List.length_set]; omega), List.getElem_set_self, List.take_set_of_le (by omega), List.append_assoc]
      rfl
theorem heldIntS_l0 : ∀ (d k : Nat) (ys : List Int) (j : Int), d < k → ys.length + d ≤ 1000000000000 → 0 ≤ j → j + d ≤ 4000000000000000 →
    laws_heldIntS.l0 k (ys ++ markL d j) j (ys.length : Int) = some (j + d) := by
  intro d
  induction d with
  | zero =>
    intro k ys j hk hx hj0 hj
    obtain ⟨k, rfl⟩ : ∃ m, k = m + 1 := ⟨k - 1, by omega⟩
    simp only [laws_heldIntS.l0]
    rw [if_neg (by simp [markL])]
    simp
  | succ d ih =>
    intro k ys j hk hx hj0 hj
    obtain ⟨k, rfl⟩ : ∃ m, k = m + 1 := ⟨k - 1, by omega⟩
    have hr : rd (ys ++ markL (d + 1) j) (ys.length : Int) = j := by
      unfold rd
      rw [markL]
      simp [List.getD_eq_getElem?_getD]
    have hl : ((ys ++ markL (d + 1) j).length : Int) = ys.length + d + 1 := by
      rw [List.length_append, markL_len]; omega
    simp only [laws_heldIntS.l0]
    rw [hr, hl, if_pos (by omega), if_pos (by omega)]
    simp only [if_true]
    rw [w_id (a := j + 1) (by omega) (by omega), w_id (a := (ys.length : Int) + 1) (by omega) (by omega)]
    have h := ih k (ys ++ [j]) (j + 1) (by omega) (by simp; omega) (by omega) (by omega)
    rw [List.append_assoc, List.length_append] at h
    simp only [List.singleton_append, List.length_singleton] at h
    rw [markL, show ((ys.length : Int) + 1) = ((ys.length + 1 : Nat) : Int) by omega, h]
    congr 1
    omega
theorem markIntS_f (xs : List Int) (hx : xs.length ≤ 1048576) (j : Int) (hj : 0 ≤ j ∧ j ≤ 100000000) (k : Nat) (hk : 1048576 < k) : laws_markIntS.f k xs j = some (j + xs.length, markL xs.length j) := by
  unfold laws_markIntS.f
  have h := markIntS_l0 xs.length k 0 xs j (by omega) (by omega) (by omega) (by omega) (by omega)
  rw [List.take_zero, List.nil_append] at h
  exact h
theorem heldIntS_f (n : Nat) (hx : n ≤ 1048576) (j : Int) (hj : 0 ≤ j ∧ j ≤ 100000000) (k : Nat) (hk : 1048576 < k) : laws_heldIntS.f k (markL n j) j = some (j + (n : Int)) := by
  unfold laws_heldIntS.f
  have h := heldIntS_l0 n k [] j (by omega) (by simp; omega) (by omega) (by omega)
  simpa using h
end Go.Proofs.Ytcligopbieaceaa.L
