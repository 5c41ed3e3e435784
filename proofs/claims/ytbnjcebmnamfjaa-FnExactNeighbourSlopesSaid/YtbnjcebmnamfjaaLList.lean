/- What the statements' own comparing and marking of slices of slopes computes; no condition but the number of rounds and the slices' lengths. -/
import Derived.Test.YtbnjcebmnamfjaaPx0
import Derived.Test.YtbnjcebmnamfjaaPx8
import Derived.Test.YtbnjcebmnamfjaaPx12
import Derived.Test.YtbnjcebmnamfjaaPx13
import Derived.Test.YtbnjcebmnamfjaaHelp
import Derived.Test.YtbnjcebmnamfjaaLBase
namespace Go.Proofs.Ytbnjcebmnamfjaa.L
open Go.RowKit Go.Proofs.Ytbnjcebmnamfjaa.P Go.Proofs.Ytbnjcebmnamfjaa.Help Go.Proofs.YtbnjcebmnamfjaaW.PrintWords
set_option linter.unusedVariables false
set_option linter.unusedSimpArgs false

theorem eqSlope_self (a b : Int) : laws_eqSlope.f a b a b = some true := by simp [laws_eqSlope.f]
theorem eqSlopeS_l0 (xs : List S25) (hx : xs.length ≤ 1000000000000) : ∀ (d k i : Nat), i + d = xs.length → d < k → laws_eqSlopeS.l0 k xs xs (i : Int) = some true := by
  intro d
  induction d with
  | zero =>
    intro k i hi hk
    obtain ⟨k, rfl⟩ : ∃ m, k = m + 1 := ⟨k - 1, by omega⟩
    simp only [laws_eqSlopeS.l0]
    rw [if_neg (by omega)]
  | succ d ih =>
    intro k i hi hk
    obtain ⟨k, rfl⟩ : ∃ m, k = m + 1 := ⟨k - 1, by omega⟩
    simp only [laws_eqSlopeS.l0]
    rw [if_pos (by omega), if_pos (by omega), if_pos (by omega), eqSlope_self, Option.bind_some, if_pos rfl, w_id (by omega) (by omega), show ((i : Int) + 1) = ((i + 1 : Nat) : Int) by omega, ih k (i + 1) (by omega) (by omega)]
theorem eqSlopeS_self (xs : List S25) (hx : xs.length ≤ 1000000000000) (k : Nat) (hk : xs.length < k) : laws_eqSlopeS.f k xs xs = some true := by
  unfold laws_eqSlopeS.f
  rw [if_pos rfl]
  exact eqSlopeS_l0 xs hx xs.length k 0 (by omega) hk
/-- The marks of n slopes from a number on. -/
def marks (n : Nat) (j : Int) : List S25 := (List.range n).map fun (t : Nat) => ⟨j + 2 * t, j + 2 * t + 1⟩
theorem marks_len (n : Nat) (j : Int) : (marks n j).length = n := by simp [marks]
theorem marks_succ (n : Nat) (j : Int) : marks (n + 1) j = ⟨j, j + 1⟩ :: marks n (j + 2) := by
  unfold marks
  rw [List.range_succ_eq_map, List.map_cons, List.map_map]
  congr 1
  · simp
  · apply List.map_congr_left
    intro t _
    simp only [Function.comp]
    congr 1 <;> omega
theorem mark_l0 : ∀ (d k i : Nat) (xs : List S25) (j : Int), i + d = xs.length → d < k → xs.length ≤ 1000000000000 → 0 ≤ j → j + 2 * d ≤ 4000000000000000 →
    laws_markSlopeS.l0 k xs j (i : Int) = some (j + 2 * d, xs.take i ++ marks d j) := by
  intro d
  induction d with
  | zero =>
    intro k i xs j hi hk hx hj0 hj
    obtain ⟨k, rfl⟩ : ∃ m, k = m + 1 := ⟨k - 1, by omega⟩
    simp only [laws_markSlopeS.l0]
    rw [if_neg (by omega), List.take_of_length_le (by omega)]
    simp [marks]
  | succ d ih =>
    intro k i xs j hi hk hx hj0 hj
    obtain ⟨k, rfl⟩ : ∃ m, k = m + 1 := ⟨k - 1, by omega⟩
    simp only [laws_markSlopeS.l0]
    rw [if_pos (by omega), if_pos (by omega)]
    simp only [Option.bind_some, Int.toNat_natCast]
    have hset : (xs.set i (⟨j, (rd_T25 xs i).f1⟩ : S25)).set i (⟨(rd_T25 (xs.set i (⟨j, (rd_T25 xs i).f1⟩ : S25)) i).f0, j + 1⟩ : S25) = xs.set i ⟨j, j + 1⟩ := by
      rw [List.set_set]
      congr 1
      unfold rd_T25
      simp [List.getD_eq_getElem?_getD, List.getElem?_set, show i < xs.length by omega]
    rw [w_id (a := j + 1) (by omega) (by omega), hset, w_id (a := j + 1 + 1) (by omega) (by omega), w_id (a := (i : Int) + 1) (by omega) (by omega), show ((i : Int) + 1) = ((i + 1 : Nat) : Int) by omega]
    rw [ih k (i + 1) _ (j + 1 + 1) (by rw [List.length_set]; omega) (by omega) (by rw [List.length_set]; omega) (by omega) (by omega)]
    congr 1
    refine Prod.ext ?_ ?_
    · show j + 1 + 1 + 2 * (d : Int) = j + 2 * ((d + 1 : Nat) : Int)
      omega
    · show (xs.set i ⟨j, j + 1⟩).take (i + 1) ++ marks d (j + 1 + 1) = xs.take i ++ marks (d + 1) j
      rw [marks_succ, List.take_succ_eq_append_getElem (by rw [List.length_set]; omega), List.getElem_set_self, List.take_set_of_le (by omega), List.append_assoc]
      rw [show j + 1 + 1 = j + 2 by omega]
      rfl
theorem held_l0 : ∀ (d k : Nat) (ys : List S25) (j : Int), d < k → ys.length + d ≤ 1000000000000 → 0 ≤ j → j + 2 * d ≤ 4000000000000000 →
    laws_heldSlopeS.l0 k (ys ++ marks d j) j (ys.length : Int) = some (j + 2 * d) := by
  intro d
  induction d with
  | zero =>
    intro k ys j hk hx hj0 hj
    obtain ⟨k, rfl⟩ : ∃ m, k = m + 1 := ⟨k - 1, by omega⟩
    simp only [laws_heldSlopeS.l0]
    rw [if_neg (by simp [marks])]
    simp
  | succ d ih =>
    intro k ys j hk hx hj0 hj
    obtain ⟨k, rfl⟩ : ∃ m, k = m + 1 := ⟨k - 1, by omega⟩
    have hr : rd_T25 (ys ++ marks (d + 1) j) (ys.length : Int) = ⟨j, j + 1⟩ := by
      unfold rd_T25
      rw [marks_succ]
      simp [List.getD_eq_getElem?_getD]
    have hl : ((ys ++ marks (d + 1) j).length : Int) = ys.length + d + 1 := by
      rw [List.length_append, marks_len]; omega
    simp only [laws_heldSlopeS.l0]
    rw [hr, hl, if_pos (by omega), if_pos (by omega)]
    simp only
    rw [w_id (a := j + 1) (by omega) (by omega)]
    simp only [if_true]
    rw [w_id (a := j + 1 + 1) (by omega) (by omega), w_id (a := (ys.length : Int) + 1) (by omega) (by omega)]
    have h := ih k (ys ++ [⟨j, j + 1⟩]) (j + 2) (by omega) (by simp; omega) (by omega) (by omega)
    rw [marks_succ, show j + 1 + 1 = j + 2 by omega]
    rw [List.append_assoc, List.length_append] at h
    simp only [List.singleton_append, List.length_singleton] at h
    rw [show ((ys.length : Int) + 1) = ((ys.length + 1 : Nat) : Int) by omega, h]
    congr 1
    omega
theorem mark_f (xs : List S25) (hx : xs.length ≤ 1000000000000) (k : Nat) (hk : xs.length < k) : laws_markSlopeS.f k xs 1 = some (1 + 2 * (xs.length : Int), marks xs.length 1) := by
  unfold laws_markSlopeS.f
  have h := mark_l0 xs.length k 0 xs 1 (by omega) hk hx (by omega) (by omega)
  rw [List.take_zero, List.nil_append] at h
  exact h
theorem held_f (n : Nat) (hx : n ≤ 1000000000000) (k : Nat) (hk : n < k) : laws_heldSlopeS.f k (marks n 1) 1 = some (1 + 2 * (n : Int)) := by
  unfold laws_heldSlopeS.f
  have h := held_l0 n k [] 1 hk (by simpa using hx) (by omega) (by omega)
  simpa using h
end Go.Proofs.Ytbnjcebmnamfjaa.L
