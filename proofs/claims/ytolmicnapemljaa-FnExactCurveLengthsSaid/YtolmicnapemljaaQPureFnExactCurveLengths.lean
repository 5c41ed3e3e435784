/- The program's CurveLengths answers as the reference's, for all arguments; no condition. -/
import Derived.Test.YtolmicnapemljaaQPx0
import Derived.Test.YtolmicnapemljaaQHelp
import Derived.Test.YtolmicnapemljaaQPx1
import Derived.Test.YtolmicnapemljaaQPx3
import Derived.Test.YtolmicnapemljaaQPx4
import Derived.Test.YtolmicnapemljaaQPx5
import Derived.Test.YtolmicnapemljaaQPx2
import Derived.Test.YtolmicnapemljaaQPx9
import Derived.Test.YtolmicnapemljaaQPx8
import Derived.Test.YtolmicnapemljaaQPx7
import Derived.Test.YtolmicnapemljaaQPx10
import Derived.Test.YtolmicnapemljaaQPx6
import Derived.Test.YtolmicnapemljaaQPx27
import Derived.Test.YtolmicnapemljaaQPx11
import Derived.Test.YtolmicnapemljaaQPx12
import Derived.Test.YtolmicnapemljaaQPx15
import Derived.Test.YtolmicnapemljaaQPx18
import Derived.Test.YtolmicnapemljaaQPx23
import Derived.Test.YtolmicnapemljaaQPx24
import Derived.Test.YtolmicnapemljaaQPx33
import Derived.Test.YtolmicnapemljaaQPx25
import Derived.Test.YtolmicnapemljaaQPx26
import Derived.Test.YtolmicnapemljaaQPx32
import Derived.Test.YtolmicnapemljaaQPx40
import Derived.Test.YtolmicnapemljaaQPx41
import Derived.Test.YtolmicnapemljaaQPx42
import Derived.Test.YtolmicnapemljaaQPx16
import Derived.Test.YtolmicnapemljaaQPx61
import Derived.Test.YtolmicnapemljaaQWlFnExactCurveLengths

namespace Go.Proofs.Ytolmicnapemljaa.L
open Go.RowKit Go.Proofs.Ytolmicnapemljaa.P Go.Proofs.Ytolmicnapemljaa.Help Go.Proofs.YtolmicnapemljaaW.PrintWords
set_option linter.unusedVariables false
set_option linter.unusedSimpArgs false

theorem w_id {a : Int} (h0 : -9223372036854775808 ≤ a) (h1 : a ≤ 9223372036854775807) : wrap64 a = a := by unfold wrap64; omega
theorem mulb {a b A B : Int} (h1 : -A ≤ a) (h2 : a ≤ A) (h3 : -B ≤ b) (h4 : b ≤ B) : -(A * B) ≤ a * b ∧ a * b ≤ A * B := by
  have hA : 0 ≤ A := by omega
  have hB : 0 ≤ B := by omega
  have h : (a * b).natAbs ≤ (A * B).natAbs := by
    rw [Int.natAbs_mul, Int.natAbs_mul]
    exact Nat.mul_le_mul (by omega) (by omega)
  have hp : 0 ≤ A * B := Int.mul_nonneg hA hB
  omega
theorem rd_nat (xs : List Int) (i : Nat) (h : i < xs.length) : rd xs (i : Int) = xs[i] := by
  unfold rd
  simp [List.getD_eq_getElem?_getD, List.getElem?_eq_getElem h]
theorem bind_ite {α β : Type} {c : Prop} [Decidable c] (x y : Option α) (f : α → Option β) : (if c then x else y).bind f = if c then x.bind f else y.bind f := by split <;> rfl
theorem unit_of {a d : Int} (h : a * d = 1) : a = 1 ∨ a = -1 := by
  have h1 : a.natAbs * d.natAbs = 1 := by rw [← Int.natAbs_mul, h]; rfl
  have h2 : a.natAbs = 1 := Nat.eq_one_of_mul_eq_one_right h1
  omega
end Go.Proofs.Ytolmicnapemljaa.L

namespace Go.Proofs.Ytolmicnapemljaa.L
open Go.RowKit Go.Proofs.Ytolmicnapemljaa.P Go.Proofs.Ytolmicnapemljaa.Help Go.Proofs.YtolmicnapemljaaW.PrintWords
set_option linter.unusedVariables false
set_option linter.unusedSimpArgs false

theorem l1In_eq (a lo hi : Int) : spec_l1In.f a lo hi = some (decide (lo ≤ a ∧ a ≤ hi)) := by
  unfold spec_l1In.f
  by_cases h : lo ≤ a <;> simp [h]
theorem within_eq (a lo hi : Int) : impl_within.f a lo hi = some (decide (lo ≤ a ∧ a ≤ hi)) := by
  unfold impl_within.f
  by_cases h : lo ≤ a <;> simp [h]
end Go.Proofs.Ytolmicnapemljaa.L

namespace Go.Proofs.Ytolmicnapemljaa.L
open Go.RowKit Go.Proofs.Ytolmicnapemljaa.P Go.Proofs.Ytolmicnapemljaa.Help Go.Proofs.YtolmicnapemljaaW.PrintWords
set_option linter.unusedVariables false
set_option linter.unusedSimpArgs false

theorem toIntS_l0 (xs : List Int) (hx : xs.length ≤ 1000000000000) : ∀ (d k i : Nat) (ys : List Int), i + d = xs.length → d < k → ys.length = xs.length → ys.take i = xs.take i → laws_toIntS.l0 k xs ys (i : Int) = some xs := by
  intro d
  induction d with
  | zero =>
    intro k i ys hi hk hl ht
    obtain ⟨k, rfl⟩ : ∃ m, k = m + 1 := ⟨k - 1, by omega⟩
    simp only [laws_toIntS.l0]
    rw [if_neg (by omega)]
    rw [List.take_of_length_le (by omega), List.take_of_length_le (by omega)] at ht
    rw [ht]
  | succ d ih =>
    intro k i ys hi hk hl ht
    obtain ⟨k, rfl⟩ : ∃ m, k = m + 1 := ⟨k - 1, by omega⟩
    simp only [laws_toIntS.l0]
    rw [if_pos (by omega), if_pos (by omega), if_pos (by omega), w_id (by omega) (by omega), show ((i : Int) + 1) = ((i + 1 : Nat) : Int) by omega, Int.toNat_natCast, rd_nat xs i (by omega)]
    refine ih k (i + 1) _ (by omega) (by omega) (by rw [List.length_set]; exact hl) ?_
    rw [List.take_succ_eq_append_getElem (by rw [List.length_set]; omega), List.take_succ_eq_append_getElem (by omega), List.getElem_set_self, List.take_set_of_le (by omega), ht]
theorem toIntS_f (xs : List Int) (hx : xs.length ≤ 1048576) (k : Nat) (hk : 1048576 < k) : laws_toIntS.f k xs = some xs := by
  unfold laws_toIntS.f
  rw [if_pos (by omega), if_pos (by omega), Int.toNat_natCast]
  exact toIntS_l0 xs (by omega) xs.length k 0 _ (by omega) (by omega) (by simp) (by simp)
theorem eqIntS_l0 (xs : List Int) (hx : xs.length ≤ 1000000000000) : ∀ (d k i : Nat), i + d = xs.length → d < k → laws_eqIntS.l0 k xs xs (i : Int) = some true := by
  intro d
  induction d with
  | zero =>
    intro k i hi hk
    obtain ⟨k, rfl⟩ : ∃ m, k = m + 1 := ⟨k - 1, by omega⟩
    simp only [laws_eqIntS.l0]
    rw [if_neg (by omega)]
  | succ d ih =>
    intro k i hi hk
    obtain ⟨k, rfl⟩ : ∃ m, k = m + 1 := ⟨k - 1, by omega⟩
    simp only [laws_eqIntS.l0]
    rw [if_pos (by omega), if_pos (by omega), if_pos (by omega)]
    simp only [if_true]
    rw [w_id (by omega) (by omega), show ((i : Int) + 1) = ((i + 1 : Nat) : Int) by omega, ih k (i + 1) (by omega) (by omega)]
theorem eqIntS_self (xs : List Int) (hx : xs.length ≤ 1048576) (k : Nat) (hk : 1048576 < k) : laws_eqIntS.f k xs xs = some true := by
  unfold laws_eqIntS.f
  rw [if_pos rfl]
  exact eqIntS_l0 xs (by omega) xs.length k 0 (by omega) (by omega)
end Go.Proofs.Ytolmicnapemljaa.L

namespace Go.Proofs.Ytolmicnapemljaa.L
open Go.RowKit Go.Proofs.Ytolmicnapemljaa.P Go.Proofs.Ytolmicnapemljaa.Help Go.Proofs.YtolmicnapemljaaW.PrintWords
set_option linter.unusedVariables false
set_option linter.unusedSimpArgs false

/-- How many numbers. -/
def tot : List (List Int) → Nat
  | [] => 0
  | r :: rs => r.length + tot rs
theorem rdL_nat (xs : List (List Int)) (i : Nat) (h : i < xs.length) : rd_L1 xs (i : Int) = xs[i] := by
  unfold rd_L1
  simp [List.getD_eq_getElem?_getD, List.getElem?_eq_getElem h]
end Go.Proofs.Ytolmicnapemljaa.L

namespace Go.Proofs.Ytolmicnapemljaa.L
open Go.RowKit Go.Proofs.Ytolmicnapemljaa.P Go.Proofs.Ytolmicnapemljaa.Help Go.Proofs.YtolmicnapemljaaW.PrintWords
set_option linter.unusedVariables false
set_option linter.unusedSimpArgs false

/-- The letters of a row, put to those that are seen. -/
def rowR (n : Int) : List Int → List Int → Option (List Int)
  | seen, [] => some seen
  | seen, x :: xs => if x ≠ 0 ∧ (-n ≤ x ∧ x ≤ n) ∧ x ∉ seen then rowR n (x :: seen) xs else none
def triR (n : Int) : List Int → List (List Int) → Bool
  | _, [] => true
  | seen, r :: rs => if r.length = 3 then (match rowR n seen r with | some s => triR n s rs | none => false) else false
/-- The number of edges. -/
def edges (t : List (List Int)) : Int := wrap64 (Int.tdiv (wrap64 (3 * (t.length : Int))) 2)
def isT (t : List (List Int)) : Bool := if (t.length : Int) % 2 = 0 ∧ 3 ≤ edges t ∧ edges t ≤ 9 then triR (edges t) [] t else false

theorem impl_tri_l1 (t : List (List Int)) (n : Int) (hn : 3 ≤ n ∧ n ≤ 9) (i : Nat) (hi : i < t.length) (hl : t[i].length = 3) : ∀ (d j k : Nat) (seen : List Int), j + d = 3 → d < k →
    impl_IsTriangulation.l1 k t n seen (i : Int) (j : Int) = (match rowR n seen (t[i].drop j) with | some s => impl_IsTriangulation.l0 (k - d - 1) t n s (wrap64 ((i : Int) + 1)) | none => some false) := by
  intro d
  induction d with
  | zero =>
    intro j k seen hj hk
    obtain ⟨k, rfl⟩ : ∃ m, k = m + 1 := ⟨k - 1, by omega⟩
    simp only [impl_IsTriangulation.l1]
    rw [rdL_nat t i hi, if_neg (by omega), List.drop_of_length_le (by omega)]
    rfl
  | succ d ih =>
    intro j k seen hj hk
    obtain ⟨k, rfl⟩ : ∃ m, k = m + 1 := ⟨k - 1, by omega⟩
    have hlt : j < t[i].length := by omega
    simp only [impl_IsTriangulation.l1]
    rw [rdL_nat t i hi, if_pos (by omega), if_pos (by omega), rd_nat _ j hlt, within_eq, Option.bind_some, w_id (a := -n) (by omega) (by omega), List.drop_eq_getElem_cons hlt]
    by_cases h1 : t[i][j] = 0
    · rw [if_pos h1]
      simp [rowR, h1]
    · rw [if_neg h1]
      by_cases h2 : -n ≤ t[i][j] ∧ t[i][j] ≤ n
      · rw [if_pos (by simpa using h2)]
        by_cases h3 : t[i][j] ∈ seen
        · rw [if_pos h3]
          simp [rowR, h3]
        · rw [if_neg h3, w_id (a := (j : Int) + 1) (by omega) (by omega), show ((j : Int) + 1) = ((j + 1 : Nat) : Int) by omega, ih (j + 1) k _ (by omega) (by omega), rowR, if_pos ⟨h1, h2, h3⟩, show k + 1 - (d + 1) - 1 = k - d - 1 by omega]
      · rw [if_neg (by simpa using h2), rowR, if_neg (fun h => h2 h.2.1)]
theorem impl_tri_l0 (t : List (List Int)) (ht : t.length ≤ 1048600) (n : Int) (hn : 3 ≤ n ∧ n ≤ 9) : ∀ (d i k : Nat) (seen : List Int), i + d = t.length → 5 * d < k →
    impl_IsTriangulation.l0 k t n seen (i : Int) = some (triR n seen (t.drop i)) := by
  intro d
  induction d with
  | zero =>
    intro i k seen hi hk
    obtain ⟨k, rfl⟩ : ∃ m, k = m + 1 := ⟨k - 1, by omega⟩
    simp only [impl_IsTriangulation.l0]
    rw [if_neg (by omega), List.drop_of_length_le (by omega)]
    rfl
  | succ d ih =>
    intro i k seen hi hk
    obtain ⟨k, rfl⟩ : ∃ m, k = m + 1 := ⟨k - 1, by omega⟩
    have hlt : i < t.length := by omega
    simp only [impl_IsTriangulation.l0]
    rw [if_pos (by omega), if_pos (by omega), rdL_nat t i hlt, List.drop_eq_getElem_cons hlt, triR]
    by_cases h1 : t[i].length = 3
    · have := impl_tri_l1 t n hn i hlt h1 3 0 k seen (by omega) (by omega)
      rw [if_pos (by omega), if_pos h1, show (0 : Int) = ((0 : Nat) : Int) from rfl, this, List.drop_zero]
      cases rowR n seen t[i] with
      | none => rfl
      | some s =>
        show impl_IsTriangulation.l0 _ t n s _ = some (triR n s _)
        rw [w_id (by omega) (by omega), show ((i : Int) + 1) = ((i + 1 : Nat) : Int) by omega, ih (i + 1) _ s (by omega) (by omega)]
    · rw [if_neg (by omega), if_neg h1]
theorem impl_isT' (t : List (List Int)) (ht : t.length ≤ 1048600) (k : Nat) (hk : 6000000 < k) : impl_IsTriangulation.f k t = some (isT t) := by
  obtain ⟨k, rfl⟩ : ∃ m, k = m + 1 := ⟨k - 1, by omega⟩
  unfold impl_IsTriangulation.f
  rw [within_eq, Option.bind_some]
  unfold isT edges
  by_cases h1 : (t.length : Int) % 2 = 0
  · rw [if_pos h1]
    simp only [impl_IsTriangulation.j0]
    by_cases h2 : 3 ≤ wrap64 (Int.tdiv (wrap64 (3 * (t.length : Int))) 2) ∧ wrap64 (Int.tdiv (wrap64 (3 * (t.length : Int))) 2) ≤ 9
    · rw [if_neg (by simpa using h2), if_pos ⟨h1, h2⟩]
      have := impl_tri_l0 t ht _ h2 t.length 0 k [] (by omega) (by omega)
      rw [List.drop_zero] at this
      exact this
    · rw [if_pos (by rw [decide_eq_false h2]; rfl), if_neg (fun h => h2 h.2)]
  · rw [if_neg h1]
    simp only [impl_IsTriangulation.j0]
    rw [if_pos trivial, if_neg (fun h => h1 h.1)]
/-- What is marked is what is seen. -/
def Marks (n : Int) (x4 : List Bool) (seen : List Int) : Prop := (x4.length : Int) = 2 * n + 1 ∧ ∀ y, -n ≤ y → y ≤ n → rdOf false x4 (n + y) = decide (y ∈ seen)
theorem Marks.put {n : Int} {x4 : List Bool} {seen : List Int} (h : Marks n x4 seen) {x : Int} (hx : -n ≤ x ∧ x ≤ n) : Marks n (x4.set (n + x).toNat true) (x :: seen) := by
  obtain ⟨h1, h2⟩ := h
  refine ⟨by rw [List.length_set]; exact h1, fun y hy1 hy2 => ?_⟩
  have h3 := h2 y hy1 hy2
  unfold rdOf at h3 ⊢
  rw [List.getD_eq_getElem?_getD] at h3 ⊢
  rw [List.getElem?_set]
  by_cases e : (n + x).toNat = (n + y).toNat
  · have : x = y := by omega
    subst this
    rw [if_pos rfl, if_pos (by omega)]
    simp
  · have hne : y ≠ x := fun e' => e (by rw [e'])
    rw [if_neg e, h3]
    simp [hne]
theorem Marks.made {n : Int} (hn : 0 ≤ n) : Marks n (List.replicate (2 * n + 1).toNat false) [] := by
  refine ⟨by rw [List.length_replicate]; omega, fun y _ _ => ?_⟩
  unfold rdOf
  rw [List.getD_eq_getElem?_getD, List.getElem?_replicate]
  split <;> simp
theorem spec_tri_l1 (t : List (List Int)) (n : Int) (hn : 3 ≤ n ∧ n ≤ 9) (i : Nat) (hi : i < t.length) (hl : t[i].length = 3) : ∀ (d j k : Nat) (x4 : List Bool) (seen : List Int), Marks n x4 seen → j + d = 3 → d < k →
    (rowR n seen (t[i].drop j) = none ∧ spec_IsTriangulation.l1 k t n x4 (i : Int) (j : Int) = some false) ∨ ∃ s x4', rowR n seen (t[i].drop j) = some s ∧ Marks n x4' s ∧ spec_IsTriangulation.l1 k t n x4 (i : Int) (j : Int) = spec_IsTriangulation.l0 (k - d - 1) t n x4' (wrap64 ((i : Int) + 1)) := by
  intro d
  induction d with
  | zero =>
    intro j k x4 seen hm hj hk
    obtain ⟨k, rfl⟩ : ∃ m, k = m + 1 := ⟨k - 1, by omega⟩
    simp only [spec_IsTriangulation.l1]
    rw [if_neg (by omega), List.drop_of_length_le (by omega)]
    exact .inr ⟨seen, x4, rfl, hm, rfl⟩
  | succ d ih =>
    intro j k x4 seen hm hj hk
    obtain ⟨k, rfl⟩ : ∃ m, k = m + 1 := ⟨k - 1, by omega⟩
    have hlt : j < t[i].length := by omega
    simp only [spec_IsTriangulation.l1]
    rw [if_pos (by omega), if_pos (by omega), if_pos (by omega), if_pos (by omega), rdL_nat t i hi, if_pos (by omega), rd_nat _ j hlt, l1In_eq, Option.bind_some, w_id (a := -n) (by omega) (by omega), List.drop_eq_getElem_cons hlt]
    by_cases h1 : t[i][j] = 0
    · rw [if_pos h1]
      exact .inl ⟨by simp [rowR, h1], rfl⟩
    · rw [if_neg h1]
      by_cases h2 : -n ≤ t[i][j] ∧ t[i][j] ≤ n
      · have hx := hm.2 _ h2.1 h2.2
        have hlen := hm.1
        rw [if_pos (by simpa using h2), w_id (a := n + t[i][j]) (by omega) (by omega), if_pos (by omega), if_pos (by omega), hx]
        by_cases h3 : t[i][j] ∈ seen
        · rw [if_pos (by simpa using h3)]
          exact .inl ⟨by simp [rowR, h3], rfl⟩
        · rw [if_neg (by simpa using h3), w_id (a := (j : Int) + 1) (by omega) (by omega), show ((j : Int) + 1) = ((j + 1 : Nat) : Int) by omega, rowR, if_pos ⟨h1, h2, h3⟩, show k + 1 - (d + 1) - 1 = k - d - 1 by omega]
          exact ih (j + 1) k _ _ (hm.put h2) (by omega) (by omega)
      · rw [if_neg (by simpa using h2), rowR, if_neg (fun h => h2 h.2.1)]
        exact .inl ⟨rfl, rfl⟩
theorem spec_tri_l0 (t : List (List Int)) (ht : t.length ≤ 1048600) (n : Int) (hn : 3 ≤ n ∧ n ≤ 9) : ∀ (d i k : Nat) (x4 : List Bool) (seen : List Int), Marks n x4 seen → i + d = t.length → 5 * d < k →
    spec_IsTriangulation.l0 k t n x4 (i : Int) = some (triR n seen (t.drop i)) := by
  intro d
  induction d with
  | zero =>
    intro i k x4 seen hm hi hk
    obtain ⟨k, rfl⟩ : ∃ m, k = m + 1 := ⟨k - 1, by omega⟩
    simp only [spec_IsTriangulation.l0]
    rw [if_neg (by omega), List.drop_of_length_le (by omega)]
    rfl
  | succ d ih =>
    intro i k x4 seen hm hi hk
    obtain ⟨k, rfl⟩ : ∃ m, k = m + 1 := ⟨k - 1, by omega⟩
    have hlt : i < t.length := by omega
    simp only [spec_IsTriangulation.l0]
    rw [if_pos (by omega), if_pos (by omega), rdL_nat t i hlt, List.drop_eq_getElem_cons hlt, triR]
    by_cases h1 : t[i].length = 3
    · rw [if_pos (by omega), if_pos h1, show (0 : Int) = ((0 : Nat) : Int) from rfl]
      rcases spec_tri_l1 t n hn i hlt h1 3 0 k x4 seen hm (by omega) (by omega) with ⟨h2, h3⟩ | ⟨s, x4', h2, h3, h4⟩
      · rw [h3]
        rw [List.drop_zero] at h2
        rw [h2]
      · rw [h4]
        rw [List.drop_zero] at h2
        rw [h2, w_id (by omega) (by omega), show ((i : Int) + 1) = ((i + 1 : Nat) : Int) by omega]
        exact ih (i + 1) _ x4' s h3 (by omega) (by omega)
    · rw [if_neg (by omega), if_neg h1]
theorem spec_isT' (t : List (List Int)) (ht : t.length ≤ 1048600) (k : Nat) (hk : 6000000 < k) : spec_IsTriangulation.f k t = some (isT t) := by
  obtain ⟨k, rfl⟩ : ∃ m, k = m + 1 := ⟨k - 1, by omega⟩
  unfold spec_IsTriangulation.f
  rw [l1In_eq, Option.bind_some]
  unfold isT edges
  by_cases h1 : (t.length : Int) % 2 = 0
  · rw [if_pos h1]
    simp only [spec_IsTriangulation.j0]
    by_cases h2 : 3 ≤ wrap64 (Int.tdiv (wrap64 (3 * (t.length : Int))) 2) ∧ wrap64 (Int.tdiv (wrap64 (3 * (t.length : Int))) 2) ≤ 9
    · obtain ⟨n, hn⟩ : ∃ n : Int, wrap64 (Int.tdiv (wrap64 (3 * (t.length : Int))) 2) = n := ⟨_, rfl⟩
      rw [hn] at h2 ⊢
      rw [if_neg (by simpa using h2), if_pos (show (t.length : Int) % 2 = 0 ∧ 3 ≤ n ∧ n ≤ 9 from ⟨h1, h2⟩), w_id (a := 2 * n) (by omega) (by omega), w_id (a := 2 * n + 1) (by omega) (by omega), if_pos (by omega), if_pos (by omega)]
      have := spec_tri_l0 t ht n h2 t.length 0 k _ [] (Marks.made (by omega)) (by omega) (by omega)
      rw [List.drop_zero] at this
      exact this
    · rw [if_pos (by rw [decide_eq_false h2]; rfl), if_neg (fun h => h2 h.2)]
  · rw [if_neg h1]
    simp only [spec_IsTriangulation.j0]
    rw [if_pos trivial, if_neg (fun h => h1 h.1)]
theorem impl_isT (t : List (List Int)) (ht : t.length ≤ 1048576) (k : Nat) (hk : 6000000 < k) : impl_IsTriangulation.f k t = some (isT t) := impl_isT' t (by omega) k hk
theorem spec_isT (t : List (List Int)) (ht : t.length ≤ 1048576) (k : Nat) (hk : 6000000 < k) : spec_IsTriangulation.f k t = some (isT t) := spec_isT' t (by omega) k hk
end Go.Proofs.Ytolmicnapemljaa.L


namespace Go.Proofs.Ytolmicnapemljaa.L
open Go.RowKit Go.Proofs.Ytolmicnapemljaa.P Go.Proofs.Ytolmicnapemljaa.Help Go.Proofs.YtolmicnapemljaaW.PrintWords
set_option linter.unusedVariables false
set_option linter.unusedSimpArgs false

theorem rowR_some {n : Int} : ∀ {r seen s : List Int}, rowR n seen r = some s → (∀ x ∈ r, x ≠ 0 ∧ -n ≤ x ∧ x ≤ n) ∧ r.Nodup ∧ (∀ x ∈ r, x ∉ seen) ∧ ∀ x, x ∈ s ↔ x ∈ r ∨ x ∈ seen
  | [], seen, s, h => by
    have e : seen = s := Option.some.inj h
    subst e
    simp
  | y :: ys, seen, s, h => by
    rw [rowR] at h
    by_cases c : y ≠ 0 ∧ (-n ≤ y ∧ y ≤ n) ∧ y ∉ seen
    · rw [if_pos c] at h
      obtain ⟨h1, h2, h3, h4⟩ := rowR_some h
      refine ⟨fun x hx => ?_, List.nodup_cons.2 ⟨fun hy => h3 y hy List.mem_cons_self, h2⟩, fun x hx hs => ?_, fun x => ?_⟩
      · rcases List.mem_cons.1 hx with rfl | hx
        · exact ⟨c.1, c.2.1⟩
        · exact h1 x hx
      · rcases List.mem_cons.1 hx with rfl | hx
        · exact c.2.2 hs
        · exact h3 x hx (List.mem_cons_of_mem _ hs)
      · rw [h4 x, List.mem_cons, List.mem_cons]
        constructor
        · rintro (h | h | h)
          · exact .inl (.inr h)
          · exact .inl (.inl h)
          · exact .inr h
        · rintro ((h | h) | h)
          · exact .inr (.inl h)
          · exact .inl h
          · exact .inr (.inr h)
    · rw [if_neg c] at h
      exact absurd h (by simp)
theorem triR_true {n : Int} : ∀ {rows : List (List Int)} {seen : List Int}, triR n seen rows = true → (∀ r ∈ rows, r.length = 3) ∧ (∀ x ∈ rows.flatten, x ≠ 0 ∧ -n ≤ x ∧ x ≤ n) ∧ rows.flatten.Nodup ∧ ∀ x ∈ rows.flatten, x ∉ seen
  | [], seen, _ => by simp
  | r :: rs, seen, h => by
    rw [triR] at h
    by_cases c : r.length = 3
    · rw [if_pos c] at h
      cases hr : rowR n seen r with
      | none => rw [hr] at h; exact absurd h (by simp)
      | some s =>
        rw [hr] at h
        obtain ⟨h1, h2, h3, h4⟩ := rowR_some hr
        obtain ⟨g1, g2, g3, g4⟩ := triR_true (show triR n s rs = true from h)
        refine ⟨fun x hx => ?_, fun x hx => ?_, ?_, fun x hx hs => ?_⟩
        · rcases List.mem_cons.1 hx with rfl | hx
          · exact c
          · exact g1 x hx
        · rw [List.flatten_cons, List.mem_append] at hx
          rcases hx with hx | hx
          · exact h1 x hx
          · exact g2 x hx
        · rw [List.flatten_cons]
          refine List.nodup_append.2 ⟨h2, g3, fun a ha b hb e => ?_⟩
          subst e
          exact g4 a hb ((h4 a).2 (.inl ha))
        · rw [List.flatten_cons, List.mem_append] at hx
          rcases hx with hx | hx
          · exact h3 x hx hs
          · exact g4 x hx ((h4 x).2 (.inr hs))
    · rw [if_neg c] at h
      exact absurd h (by simp)
/-- A triangulation with n edges. -/
structure TriOk (t : List (List Int)) (n : Int) : Prop where
  n3 : 3 ≤ n
  n9 : n ≤ 9
  len : 3 * (t.length : Int) = 2 * n
  row : ∀ r ∈ t, r.length = 3
  inr : ∀ x ∈ t.flatten, x ≠ 0 ∧ -n ≤ x ∧ x ≤ n
  nodup : t.flatten.Nodup
theorem edges_eq {t : List (List Int)} (ht : t.length ≤ 1048600) : edges t = 3 * (t.length : Int) / 2 := by
  unfold edges
  rw [w_id (a := 3 * (t.length : Int)) (by omega) (by omega), Int.tdiv_eq_ediv_of_nonneg (by omega), w_id (by omega) (by omega)]
theorem isT_ok' {t : List (List Int)} (ht : t.length ≤ 1048600) (h : isT t = true) : TriOk t (edges t) := by
  unfold isT at h
  by_cases c : (t.length : Int) % 2 = 0 ∧ 3 ≤ edges t ∧ edges t ≤ 9
  · rw [if_pos c] at h
    obtain ⟨h1, h2, h3, _⟩ := triR_true h
    have e := edges_eq ht
    exact ⟨c.2.1, c.2.2, by omega, h1, h2, h3⟩
  · rw [if_neg c] at h
    exact absurd h (by simp)
theorem isT_ok {t : List (List Int)} (ht : t.length ≤ 1048576) (h : isT t = true) : TriOk t (edges t) := isT_ok' (by omega) h
theorem TriOk.short {t : List (List Int)} {n : Int} (h : TriOk t n) : t.length ≤ 6 ∧ 2 ≤ t.length := by
  have := h.n3
  have := h.n9
  have := h.len
  omega
theorem TriOk.at {t : List (List Int)} {n : Int} (h : TriOk t n) {i j : Nat} (hi : i < t.length) (hj : j < t[i].length) : t[i][j] ≠ 0 ∧ -n ≤ t[i][j] ∧ t[i][j] ≤ n :=
  h.inr _ (List.mem_flatten.2 ⟨t[i], List.getElem_mem hi, List.getElem_mem hj⟩)
theorem TriOk.three {t : List (List Int)} {n : Int} (h : TriOk t n) {i : Nat} (hi : i < t.length) : t[i].length = 3 := h.row _ (List.getElem_mem hi)
theorem TriOk.i64 {t : List (List Int)} {n : Int} (h : TriOk t n) {r : List Int} (hr : r ∈ t) : ∃ a b c, r = [a, b, c] ∧ (a ≠ 0 ∧ -n ≤ a ∧ a ≤ n) ∧ (b ≠ 0 ∧ -n ≤ b ∧ b ≤ n) ∧ (c ≠ 0 ∧ -n ≤ c ∧ c ≤ n) := by
  have hl := h.row r hr
  match r, hl with
  | [a, b, c], _ =>
    exact ⟨a, b, c, rfl, h.inr _ (List.mem_flatten.2 ⟨_, hr, by simp⟩), h.inr _ (List.mem_flatten.2 ⟨_, hr, by simp⟩), h.inr _ (List.mem_flatten.2 ⟨_, hr, by simp⟩)⟩
end Go.Proofs.Ytolmicnapemljaa.L

namespace Go.Proofs.Ytolmicnapemljaa.L
open Go.RowKit Go.Proofs.Ytolmicnapemljaa.P Go.Proofs.Ytolmicnapemljaa.Help Go.Proofs.YtolmicnapemljaaW.PrintWords
set_option linter.unusedVariables false
set_option linter.unusedSimpArgs false

def co (x : Int) : Bool := decide (0 ≤ x ∧ x ≤ 200)
theorem areCo_l0 (xs : List Int) (hx : xs.length ≤ 1000000000) : ∀ (d k i : Nat), i + d = xs.length → d < k → impl_areCoordinates.l0 k xs (xs.length : Int) (i : Int) = some ((xs.drop i).all co) := by
  intro d
  induction d with
  | zero =>
    intro k i hi hk
    obtain ⟨k, rfl⟩ : ∃ m, k = m + 1 := ⟨k - 1, by omega⟩
    simp only [impl_areCoordinates.l0]
    rw [if_neg (by omega), List.drop_of_length_le (by omega)]
    rfl
  | succ d ih =>
    intro k i hi hk
    obtain ⟨k, rfl⟩ : ∃ m, k = m + 1 := ⟨k - 1, by omega⟩
    have hlt : i < xs.length := by omega
    simp only [impl_areCoordinates.l0]
    rw [if_pos (by omega), if_pos (by omega), if_pos (by omega), within_eq, Option.bind_some, w_id (by omega) (by omega), show ((i : Int) + 1) = ((i + 1 : Nat) : Int) by omega, ih k (i + 1) (by omega) (by omega), List.drop_eq_getElem_cons hlt, List.all_cons, rd_nat xs i hlt]
    unfold co
    by_cases h : 0 ≤ xs[i] ∧ xs[i] ≤ 200 <;> simp [h]
theorem areCo (xs : List Int) (hx : xs.length ≤ 1000000000) (k : Nat) (hk : xs.length < k) : impl_areCoordinates.f k xs = some (xs.all co) := by
  unfold impl_areCoordinates.f
  have := areCo_l0 xs hx xs.length k 0 (by omega) hk
  rw [List.drop_zero] at this
  exact this
theorem co_true {x : Int} (h : co x = true) : 0 ≤ x ∧ x ≤ 200 := of_decide_eq_true h
theorem all_co {xs : List Int} (h : xs.all co = true) : ∀ x ∈ xs, 0 ≤ x ∧ x ≤ 200 := fun x hx => co_true (List.all_eq_true.1 h x hx)
end Go.Proofs.Ytolmicnapemljaa.L

namespace Go.Proofs.Ytolmicnapemljaa.L
open Go.RowKit Go.Proofs.Ytolmicnapemljaa.P Go.Proofs.Ytolmicnapemljaa.Help Go.Proofs.YtolmicnapemljaaW.PrintWords
set_option linter.unusedVariables false
set_option linter.unusedSimpArgs false

theorem l3Abs_eq {a : Int} (h0 : -9223372036854775807 ≤ a) (h1 : a ≤ 9223372036854775807) : spec_l3Abs.f a = some (a.natAbs : Int) := by
  unfold spec_l3Abs.f spec_l1Max.f
  rw [w_id (by omega) (by omega)]
  by_cases h : a > -a
  · rw [if_pos h]; simp only [Option.bind_some]; congr 1; omega
  · rw [if_neg h]; simp only [Option.bind_some]; congr 1; omega
theorem size_eq {a : Int} (h0 : -9223372036854775807 ≤ a) (h1 : a ≤ 9223372036854775807) : impl_size.f a = some (a.natAbs : Int) := by
  unfold impl_size.f
  rw [w_id (by omega) (by omega)]
  congr 1
  unfold mx
  split <;> omega
end Go.Proofs.Ytolmicnapemljaa.L

namespace Go.Proofs.Ytolmicnapemljaa.L
open Go.RowKit Go.Proofs.Ytolmicnapemljaa.P Go.Proofs.Ytolmicnapemljaa.Help Go.Proofs.YtolmicnapemljaaW.PrintWords
set_option linter.unusedVariables false
set_option linter.unusedSimpArgs false

/-- A side's coordinate. -/
def crd (x : List Int) (s : Int) : Int := rd x ((s.natAbs : Int) - 1)
def fairRow (x : List Int) : List Int → Bool
  | [a, b, c] => decide ((crd x a + crd x b + crd x c) % 2 = 0 ∧ crd x a ≤ crd x b + crd x c ∧ crd x b ≤ crd x a + crd x c ∧ crd x c ≤ crd x a + crd x b)
  | _ => false
def isF (t : List (List Int)) (x : List Int) : Bool := isT t && (decide ((x.length : Int) = edges t) && (x.all co && t.all (fairRow x)))
theorem crd_bd {x : List Int} (hx : x.all co = true) (s : Int) : 0 ≤ crd x s ∧ crd x s ≤ 200 := by
  unfold crd rd
  rw [List.getD_eq_getElem?_getD]
  cases h : x[((s.natAbs : Int) - 1).toNat]? with
  | none => simp
  | some y =>
    have := List.all_eq_true.1 hx y (List.mem_of_getElem? h)
    unfold co at this
    simpa using this
/-- Twice the arcs at a corner. -/
def twR (x : List Int) (a b c : Int) : Int := crd x a + crd x b - crd x c
theorem twice_eq {t : List (List Int)} {n : Int} (ok : TriOk t n) {x : List Int} (hx : (x.length : Int) = n) (hc : x.all co = true) {i : Nat} (hi : i < t.length) {a b c : Int} (e : t[i] = [a, b, c]) :
    spec_l15Twice.f t x (i : Int) 0 = some (twR x a b c) ∧ spec_l15Twice.f t x (i : Int) 1 = some (twR x b c a) ∧ spec_l15Twice.f t x (i : Int) 2 = some (twR x c a b) := by
  have n9 := ok.n9
  have hm : ∀ y ∈ [a, b, c], y ≠ 0 ∧ -n ≤ y ∧ y ≤ n := by
    intro y hy
    rw [← e] at hy
    exact ok.inr y (List.mem_flatten.2 ⟨_, List.getElem_mem hi, hy⟩)
  have ha := hm a (by simp)
  have hb := hm b (by simp)
  have hcc := hm c (by simp)
  have A := crd_bd hc a
  have B := crd_bd hc b
  have C := crd_bd hc c
  have e0 : rd [a, b, c] 0 = a := rfl
  have e1 : rd [a, b, c] 1 = b := rfl
  have e2 : rd [a, b, c] 2 = c := rfl
  have q : ∀ y : Int, y ≠ 0 ∧ -n ≤ y ∧ y ≤ n → 0 ≤ (y.natAbs : Int) - 1 ∧ (y.natAbs : Int) - 1 < x.length ∧ wrap64 ((y.natAbs : Int) - 1) = (y.natAbs : Int) - 1 := fun y hy => ⟨by omega, by omega, w_id (by omega) (by omega)⟩
  obtain ⟨qa1, qa2, qa3⟩ := q a ha
  obtain ⟨qb1, qb2, qb3⟩ := q b hb
  obtain ⟨qc1, qc2, qc3⟩ := q c hcc
  have sa := l3Abs_eq (a := a) (by omega) (by omega)
  have sb := l3Abs_eq (a := b) (by omega) (by omega)
  have sc := l3Abs_eq (a := c) (by omega) (by omega)
  have l3 : (([a, b, c] : List Int).length : Int) = 3 := rfl
  have w01 : Int.tmod (wrap64 (0 + 1)) 3 = 1 := by decide +kernel
  have w02 : Int.tmod (wrap64 (0 + 2)) 3 = 2 := by decide +kernel
  have w11 : Int.tmod (wrap64 (1 + 1)) 3 = 2 := by decide +kernel
  have w12 : Int.tmod (wrap64 (1 + 2)) 3 = 0 := by decide +kernel
  have w21 : Int.tmod (wrap64 (2 + 1)) 3 = 0 := by decide +kernel
  have w22 : Int.tmod (wrap64 (2 + 2)) 3 = 1 := by decide +kernel
  have i0 : (0 : Int) ≤ (i : Int) := by omega
  have i1 : (i : Int) < (t.length : Int) := by omega
  refine ⟨?_, ?_, ?_⟩
  · unfold spec_l15Twice.f
    rw [if_pos i0, if_pos i1, rdL_nat t i hi, e, l3, w01, w02, if_pos (by decide), if_pos (by decide), e0, sa, Option.bind_some, qa3, if_pos qa1, if_pos qa2, if_pos (by decide), if_pos (by decide), e1, sb, Option.bind_some, qb3, if_pos qb1, if_pos qb2, if_pos (by decide), if_pos (by decide), e2, sc, Option.bind_some, qc3, if_pos qc1, if_pos qc2]
    unfold twR
    unfold crd at A B C ⊢
    rw [w_id (a := rd x _ + rd x _) (by omega) (by omega), w_id (by omega) (by omega)]
  · unfold spec_l15Twice.f
    rw [if_pos i0, if_pos i1, rdL_nat t i hi, e, l3, w11, w12, if_pos (by decide), if_pos (by decide), e1, sb, Option.bind_some, qb3, if_pos qb1, if_pos qb2, if_pos (by decide), if_pos (by decide), e2, sc, Option.bind_some, qc3, if_pos qc1, if_pos qc2, if_pos (by decide), if_pos (by decide), e0, sa, Option.bind_some, qa3, if_pos qa1, if_pos qa2]
    unfold twR
    unfold crd at A B C ⊢
    rw [w_id (a := rd x _ + rd x _) (by omega) (by omega), w_id (by omega) (by omega)]
  · unfold spec_l15Twice.f
    rw [if_pos i0, if_pos i1, rdL_nat t i hi, e, l3, w21, w22, if_pos (by decide), if_pos (by decide), e2, sc, Option.bind_some, qc3, if_pos qc1, if_pos qc2, if_pos (by decide), if_pos (by decide), e0, sa, Option.bind_some, qa3, if_pos qa1, if_pos qa2, if_pos (by decide), if_pos (by decide), e1, sb, Option.bind_some, qb3, if_pos qb1, if_pos qb2]
    unfold twR
    unfold crd at A B C ⊢
    rw [w_id (a := rd x _ + rd x _) (by omega) (by omega), w_id (by omega) (by omega)]
theorem spec_fair_l2 {t : List (List Int)} {n : Int} (ok : TriOk t n) {x : List Int} (hx : (x.length : Int) = n) (hc : x.all co = true) {i : Nat} (hi : i < t.length) (k : Nat) :
    spec_IsFair.l2 (k + 4) t x (i : Int) 0 = if fairRow x t[i] = true then spec_IsFair.l1 k t x (wrap64 ((i : Int) + 1)) else some false := by
  obtain ⟨a, b, c, e, _⟩ := ok.i64 (List.getElem_mem hi)
  obtain ⟨h0, h1, h2⟩ := twice_eq ok hx hc hi e
  have A := crd_bd hc a
  have B := crd_bd hc b
  have C := crd_bd hc c
  have hf : fairRow x t[i] = decide ((crd x a + crd x b + crd x c) % 2 = 0 ∧ crd x a ≤ crd x b + crd x c ∧ crd x b ≤ crd x a + crd x c ∧ crd x c ≤ crd x a + crd x b) := by rw [e]; rfl
  rw [hf]
  unfold twR at h0 h1 h2
  have no : ∀ (P : Prop) [Decidable P] (α : Type) (u v : α), ¬ P → (if decide P = true then u else v) = v := fun P _ α u v h => by simp [h]
  simp only [spec_IsFair.l2]
  rw [if_pos (by decide), h0, Option.bind_some]
  by_cases c0 : crd x a + crd x b - crd x c < 0
  · rw [if_pos c0, no _ _ _ _ (by omega)]
  · rw [if_neg c0, Int.tmod_eq_emod_of_nonneg (by omega)]
    by_cases d0 : (crd x a + crd x b - crd x c) % 2 = 0
    · rw [if_pos d0, show wrap64 (0 + 1) = 1 by decide +kernel]
      rw [if_pos (by decide), h1, Option.bind_some]
      by_cases c1 : crd x b + crd x c - crd x a < 0
      · rw [if_pos c1, no _ _ _ _ (by omega)]
      · rw [if_neg c1, Int.tmod_eq_emod_of_nonneg (by omega), if_pos (by omega), show wrap64 (1 + 1) = 2 by decide +kernel]
        rw [if_pos (by decide), h2, Option.bind_some]
        by_cases c2 : crd x c + crd x a - crd x b < 0
        · rw [if_pos c2, no _ _ _ _ (by omega)]
        · rw [if_neg c2, Int.tmod_eq_emod_of_nonneg (by omega), if_pos (by omega), show wrap64 (2 + 1) = 3 by decide +kernel]
          rw [if_neg (by decide), if_pos (by rw [decide_eq_true_iff]; omega)]
    · rw [if_neg d0, no _ _ _ _ (by omega)]
theorem spec_fair_l1 {t : List (List Int)} {n : Int} (ok : TriOk t n) {x : List Int} (hx : (x.length : Int) = n) (hc : x.all co = true) : ∀ (d i k : Nat), i + d = t.length → 6 * d < k → spec_IsFair.l1 k t x (i : Int) = some ((t.drop i).all (fairRow x)) := by
  have hs := ok.short
  intro d
  induction d with
  | zero =>
    intro i k hi hk
    obtain ⟨k, rfl⟩ : ∃ m, k = m + 1 := ⟨k - 1, by omega⟩
    simp only [spec_IsFair.l1]
    rw [if_neg (by omega), List.drop_of_length_le (by omega)]
    rfl
  | succ d ih =>
    intro i k hi hk
    obtain ⟨k, rfl⟩ : ∃ m, k = m + 5 := ⟨k - 5, by omega⟩
    have hlt : i < t.length := by omega
    rw [show k + 5 = (k + 4) + 1 from rfl]
    simp only [spec_IsFair.l1]
    rw [if_pos (by omega), spec_fair_l2 ok hx hc hlt k, w_id (by omega) (by omega), show ((i : Int) + 1) = ((i + 1 : Nat) : Int) by omega, ih (i + 1) k (by omega) (by omega), List.drop_eq_getElem_cons hlt, List.all_cons]
    by_cases h : fairRow x t[i] = true
    · rw [if_pos h, h, Bool.true_and]
    · rw [if_neg h]
      simp at h
      rw [h, Bool.false_and]
theorem spec_fair_l0 {t : List (List Int)} {n : Int} (ok : TriOk t n) {x : List Int} (hx : (x.length : Int) = n) : ∀ (d i k : Nat), i + d = x.length → 100 + d < k → (x.take i).all co = true → spec_IsFair.l0 k t x (i : Int) = some (x.all co && t.all (fairRow x)) := by
  have hs := ok.short
  have n9 := ok.n9
  intro d
  induction d with
  | zero =>
    intro i k hi hk ht
    obtain ⟨k, rfl⟩ : ∃ m, k = m + 1 := ⟨k - 1, by omega⟩
    simp only [spec_IsFair.l0]
    rw [List.take_of_length_le (by omega)] at ht
    have := spec_fair_l1 ok hx ht t.length 0 k (by omega) (by omega)
    rw [List.drop_zero] at this
    rw [if_neg (by omega), ht, Bool.true_and]
    exact this
  | succ d ih =>
    intro i k hi hk ht
    obtain ⟨k, rfl⟩ : ∃ m, k = m + 1 := ⟨k - 1, by omega⟩
    have hlt : i < x.length := by omega
    simp only [spec_IsFair.l0]
    rw [if_pos (by omega), if_pos (by omega), rd_nat x i hlt, l1In_eq, Option.bind_some]
    by_cases h : 0 ≤ x[i] ∧ x[i] ≤ 200
    · rw [if_pos (by simpa using h), w_id (by omega) (by omega), show ((i : Int) + 1) = ((i + 1 : Nat) : Int) by omega]
      refine ih (i + 1) k (by omega) (by omega) ?_
      rw [List.take_succ_eq_append_getElem hlt, List.all_append, ht]
      simp [co, h]
    · rw [if_neg (by simpa using h)]
      have : x.all co = false := by
        rw [List.all_eq_false]
        exact ⟨x[i], List.getElem_mem hlt, by unfold co; simpa using h⟩
      rw [this, Bool.false_and]
theorem spec_fair (t : List (List Int)) (ht : t.length ≤ 1048576) (x : List Int) (k : Nat) (hk : 6000001 < k) : spec_IsFair.f k t x = some (isF t x) := by
  obtain ⟨k, rfl⟩ : ∃ m, k = m + 1 := ⟨k - 1, by omega⟩
  unfold spec_IsFair.f isF
  rw [spec_isT t ht _ (by omega), Option.bind_some]
  simp only [spec_IsFair.j0]
  rw [show wrap64 (Int.tdiv (wrap64 (3 * (t.length : Int))) 2) = edges t from rfl]
  by_cases h : isT t = true
  · have ok := isT_ok ht h
    have n9 := ok.n9
    rw [if_pos h, h]
    by_cases h2 : (x.length : Int) = edges t
    · have := spec_fair_l0 ok h2 x.length 0 k (by omega) (by omega) (by simp)
      rw [if_neg (by simpa using h2), decide_eq_true h2, Bool.true_and, Bool.true_and]
      exact this
    · rw [if_pos (by simpa using h2), decide_eq_false h2, Bool.false_and, Bool.and_false]
  · rw [if_neg h, if_pos trivial]
    simp at h
    rw [h, Bool.false_and]
theorem impl_fair_l0 {t : List (List Int)} {n : Int} (ok : TriOk t n) {x : List Int} (hx : (x.length : Int) = n) (hc : x.all co = true) : ∀ (d i k : Nat), i + d = t.length → d < k → impl_IsFair.l0 k x t (t.length : Int) (i : Int) = some ((t.drop i).all (fairRow x)) := by
  have hs := ok.short
  have n9 := ok.n9
  intro d
  induction d with
  | zero =>
    intro i k hi hk
    obtain ⟨k, rfl⟩ : ∃ m, k = m + 1 := ⟨k - 1, by omega⟩
    simp only [impl_IsFair.l0]
    rw [if_neg (by omega), List.drop_of_length_le (by omega)]
    rfl
  | succ d ih =>
    intro i k hi hk
    obtain ⟨k, rfl⟩ : ∃ m, k = m + 1 := ⟨k - 1, by omega⟩
    have hlt : i < t.length := by omega
    obtain ⟨a, b, c, e, ha, hb, hcc⟩ := ok.i64 (List.getElem_mem hlt)
    have A := crd_bd hc a
    have B := crd_bd hc b
    have C := crd_bd hc c
    have q : ∀ y : Int, y ≠ 0 ∧ -n ≤ y ∧ y ≤ n → 0 ≤ (y.natAbs : Int) - 1 ∧ (y.natAbs : Int) - 1 < x.length ∧ wrap64 ((y.natAbs : Int) - 1) = (y.natAbs : Int) - 1 := fun y hy => ⟨by omega, by omega, w_id (by omega) (by omega)⟩
    obtain ⟨qa1, qa2, qa3⟩ := q a ha
    obtain ⟨qb1, qb2, qb3⟩ := q b hb
    obtain ⟨qc1, qc2, qc3⟩ := q c hcc
    have sa := size_eq (a := a) (by omega) (by omega)
    have sb := size_eq (a := b) (by omega) (by omega)
    have sc := size_eq (a := c) (by omega) (by omega)
    have l3 : (([a, b, c] : List Int).length : Int) = 3 := rfl
    have e0 : rd [a, b, c] 0 = a := rfl
    have e1 : rd [a, b, c] 1 = b := rfl
    have e2 : rd [a, b, c] 2 = c := rfl
    have hf : fairRow x t[i] = decide ((crd x a + crd x b + crd x c) % 2 = 0 ∧ crd x a ≤ crd x b + crd x c ∧ crd x b ≤ crd x a + crd x c ∧ crd x c ≤ crd x a + crd x b) := by rw [e]; rfl
    simp only [impl_IsFair.l0]
    rw [List.drop_eq_getElem_cons hlt, List.all_cons, hf]
    rw [if_pos (by omega), if_pos (by omega), if_pos (by omega), rdL_nat t i hlt, e, l3, e0, e1, e2, if_pos (by decide), sa, Option.bind_some, qa3, if_pos qa1, if_pos qa2, if_pos (by decide), sb, Option.bind_some, qb3, if_pos qb1, if_pos qb2, if_pos (by decide), sc, Option.bind_some, qc3, if_pos qc1, if_pos qc2]
    rw [show rd x ((a.natAbs : Int) - 1) = crd x a from rfl, show rd x ((b.natAbs : Int) - 1) = crd x b from rfl, show rd x ((c.natAbs : Int) - 1) = crd x c from rfl]
    rw [w_id (a := crd x a + crd x b) (by omega) (by omega), w_id (a := crd x a + crd x b + crd x c) (by omega) (by omega), w_id (a := crd x b + crd x c) (by omega) (by omega), w_id (a := crd x a + crd x c) (by omega) (by omega), Int.tmod_eq_emod_of_nonneg (by omega), w_id (a := (i : Int) + 1) (by omega) (by omega), show ((i : Int) + 1) = ((i + 1 : Nat) : Int) by omega, ih (i + 1) k (by omega) (by omega)]
    have no : ∀ (P : Prop) [Decidable P] (u : Bool), ¬ P → (decide P && u) = false := fun P _ u h => by simp [h]
    by_cases c0 : (crd x a + crd x b + crd x c) % 2 = 0
    · rw [if_pos c0]
      by_cases c1 : crd x a > crd x b + crd x c
      · rw [if_pos c1, no _ _ (by omega)]
      · rw [if_neg c1]
        by_cases c2 : crd x b > crd x a + crd x c
        · rw [if_pos c2, no _ _ (by omega)]
        · rw [if_neg c2]
          by_cases c3 : crd x c > crd x a + crd x b
          · rw [if_pos c3, no _ _ (by omega)]
          · rw [if_neg c3, decide_eq_true (by omega), Bool.true_and]
    · rw [if_neg c0, no _ _ (by omega)]
theorem impl_fair (t : List (List Int)) (ht : t.length ≤ 1048576) (x : List Int) (k : Nat) (hk : 6000001 < k) : impl_IsFair.f k t x = some (isF t x) := by
  obtain ⟨k, rfl⟩ : ∃ m, k = m + 1 := ⟨k - 1, by omega⟩
  unfold impl_IsFair.f isF
  rw [impl_isT t ht _ (by omega), Option.bind_some]
  simp only [impl_IsFair.j0]
  rw [show wrap64 (Int.tdiv (wrap64 (3 * (t.length : Int))) 2) = edges t from rfl]
  by_cases h : isT t = true
  · have ok := isT_ok ht h
    have n9 := ok.n9
    have hs := ok.short
    rw [if_pos h, h]
    by_cases h2 : (x.length : Int) = edges t
    · rw [if_pos h2, decide_eq_true h2, Bool.true_and, Bool.true_and, areCo x (by omega) _ (by omega), Option.bind_some]
      by_cases h3 : x.all co = true
      · have := impl_fair_l0 ok h2 h3 t.length 0 k (by omega) (by omega)
        rw [List.drop_zero] at this
        rw [h3, if_neg (by decide), Bool.true_and]
        exact this
      · rw [Bool.eq_false_iff.mpr h3, if_pos (by decide), Bool.false_and]
    · rw [if_neg h2, if_pos trivial, decide_eq_false h2, Bool.false_and, Bool.and_false]
  · rw [if_neg h, if_pos trivial]
    simp at h
    rw [h, Bool.false_and]
end Go.Proofs.Ytolmicnapemljaa.L

namespace Go.Proofs.Ytolmicnapemljaa.L
open Go.RowKit Go.Proofs.Ytolmicnapemljaa.P Go.Proofs.Ytolmicnapemljaa.Help Go.Proofs.YtolmicnapemljaaW.PrintWords
set_option linter.unusedVariables false
set_option linter.unusedSimpArgs false

/-- The first place of a number. -/
def idx (x : Int) : List Int → Int → Int
  | [], _ => -1
  | y :: ys, j => if y = x then j else idx x ys (j + 1)
def sideR (x : Int) : List (List Int) → Int → Int × Int
  | [], _ => (-1, -1)
  | r :: rs, i => if 0 ≤ idx x r 0 then (i, idx x r 0) else sideR x rs (i + 1)
theorem idx_bd (x : Int) : ∀ (ys : List Int) (j : Int), 0 ≤ j → idx x ys j = -1 ∨ (j ≤ idx x ys j ∧ idx x ys j < j + ys.length)
  | [], j, _ => .inl rfl
  | y :: ys, j, hj => by
    rw [idx, List.length_cons]
    split
    · exact .inr (by omega)
    · rcases idx_bd x ys (j + 1) (by omega) with h | h
      · exact .inl h
      · exact .inr (by omega)
theorem idx_hit (x : Int) : ∀ (ys : List Int) (j : Int), 0 ≤ j → x ∈ ys → j ≤ idx x ys j ∧ idx x ys j < j + ys.length
  | [], j, _, h => absurd h (by simp)
  | y :: ys, j, hj, h => by
    rw [idx, List.length_cons]
    by_cases e : y = x
    · rw [if_pos e]; omega
    · rw [if_neg e]
      have := idx_hit x ys (j + 1) (by omega) (by
        rcases List.mem_cons.1 h with h | h
        · exact absurd h.symm e
        · exact h)
      omega
theorem idx_at (x : Int) : ∀ (ys : List Int) (j : Int), 0 ≤ j → 0 ≤ idx x ys j → ys[(idx x ys j - j).toNat]? = some x
  | [], j, _, h => absurd h (by simp [idx])
  | y :: ys, j, hj, h => by
    rw [idx] at h ⊢
    by_cases e : y = x
    · rw [if_pos e]
      simp [e]
    · rw [if_neg e] at h ⊢
      have ih := idx_at x ys (j + 1) (by omega) h
      rcases idx_bd x ys (j + 1) (by omega) with h2 | h2
      · omega
      · rw [show (idx x ys (j + 1) - j).toNat = (idx x ys (j + 1) - (j + 1)).toNat + 1 by omega, List.getElem?_cons_succ]
        exact ih
theorem indexOf_l0 (x : Int) (xs : List Int) (hx : xs.length ≤ 1000000000000) : ∀ (d k j : Nat), j + d = xs.length → d < k → impl_indexOf.l0 k x xs (xs.length : Int) (j : Int) = some (idx x (xs.drop j) (j : Int)) := by
  intro d
  induction d with
  | zero =>
    intro k j hj hk
    obtain ⟨k, rfl⟩ : ∃ m, k = m + 1 := ⟨k - 1, by omega⟩
    simp only [impl_indexOf.l0]
    rw [if_neg (by omega), List.drop_of_length_le (by omega)]
    rfl
  | succ d ih =>
    intro k j hj hk
    obtain ⟨k, rfl⟩ : ∃ m, k = m + 1 := ⟨k - 1, by omega⟩
    have hlt : j < xs.length := by omega
    simp only [impl_indexOf.l0]
    rw [if_pos (by omega), if_pos (by omega), if_pos (by omega), rd_nat xs j hlt, List.drop_eq_getElem_cons hlt, idx]
    by_cases e : xs[j] = x
    · rw [if_pos e, if_pos e]
    · rw [if_neg e, if_neg e, w_id (by omega) (by omega), show ((j : Int) + 1) = ((j + 1 : Nat) : Int) by omega, ih k (j + 1) (by omega) (by omega)]
theorem indexOf_f (x : Int) (xs : List Int) (hx : xs.length ≤ 1000000000000) (k : Nat) (hk : xs.length < k) : impl_indexOf.f k xs x = some (idx x xs 0) := by
  unfold impl_indexOf.f
  have := indexOf_l0 x xs hx xs.length k 0 (by omega) hk
  rw [List.drop_zero] at this
  exact this
theorem sideAt_l0 (x : Int) (t : List (List Int)) (ht : t.length ≤ 1048576) (hr : ∀ r ∈ t, r.length ≤ 1048576) : ∀ (d k i : Nat), i + d = t.length → d + 1048577 < k → impl_sideAt.l0 k x t (t.length : Int) (i : Int) = some (sideR x (t.drop i) (i : Int)) := by
  intro d
  induction d with
  | zero =>
    intro k i hi hk
    obtain ⟨k, rfl⟩ : ∃ m, k = m + 1 := ⟨k - 1, by omega⟩
    simp only [impl_sideAt.l0]
    rw [if_neg (by omega), List.drop_of_length_le (by omega)]
    rfl
  | succ d ih =>
    intro k i hi hk
    obtain ⟨k, rfl⟩ : ∃ m, k = m + 1 := ⟨k - 1, by omega⟩
    have hlt : i < t.length := by omega
    have hl := hr _ (List.getElem_mem hlt)
    simp only [impl_sideAt.l0]
    rw [if_pos (by omega), if_pos (by omega), if_pos (by omega), rdL_nat t i hlt, indexOf_f x _ (by omega) k (by omega), Option.bind_some, List.drop_eq_getElem_cons hlt, sideR]
    by_cases e : 0 ≤ idx x t[i] 0
    · rw [if_pos e, if_pos e]
    · rw [if_neg e, if_neg e, w_id (by omega) (by omega), show ((i : Int) + 1) = ((i + 1 : Nat) : Int) by omega, ih k (i + 1) (by omega) (by omega)]
theorem sideAt_f (x : Int) (t : List (List Int)) (ht : t.length ≤ 1048576) (hr : ∀ r ∈ t, r.length ≤ 1048576) (k : Nat) (hk : 3000000 < k) : impl_sideAt.f k t x = some (sideR x t 0) := by
  unfold impl_sideAt.f
  have := sideAt_l0 x t ht hr t.length k 0 (by omega) (by omega)
  rw [List.drop_zero] at this
  exact this
end Go.Proofs.Ytolmicnapemljaa.L

namespace Go.Proofs.Ytolmicnapemljaa.L
open Go.RowKit Go.Proofs.Ytolmicnapemljaa.P Go.Proofs.Ytolmicnapemljaa.Help Go.Proofs.YtolmicnapemljaaW.PrintWords
set_option linter.unusedVariables false
set_option linter.unusedSimpArgs false

theorem getD_at {α : Type} {l : List α} (d : α) {i : Nat} (h : i < l.length) : l.getD i d = l[i] := by
  rw [List.getD_eq_getElem?_getD, List.getElem?_eq_getElem h, Option.getD_some]
/-- The letter of a side, the sides counted on from the last to the first. -/
def sideOf (t : List (List Int)) (i : Nat) (j : Nat) : Int := (t.getD i []).getD (j % 3) 0
theorem sideOf_in {t : List (List Int)} {n : Int} (ok : TriOk t n) {i : Nat} (hi : i < t.length) (j : Nat) : sideOf t i j ≠ 0 ∧ -n ≤ sideOf t i j ∧ sideOf t i j ≤ n := by
  have h3 := ok.three hi
  have hj : j % 3 < t[i].length := by omega
  have := ok.at hi hj
  unfold sideOf
  rw [getD_at _ hi, getD_at _ hj]
  exact this
theorem sideOf_eq {t : List (List Int)} {i : Nat} (hi : i < t.length) {a b c : Int} (e : t[i] = [a, b, c]) : sideOf t i 0 = a ∧ sideOf t i 1 = b ∧ sideOf t i 2 = c ∧ sideOf t i 3 = a ∧ sideOf t i 4 = b := by
  unfold sideOf
  rw [getD_at _ hi, e]
  exact ⟨rfl, rfl, rfl, rfl, rfl⟩
theorem flat3 : ∀ {t : List (List Int)}, (∀ r ∈ t, r.length = 3) → t.flatten.length = 3 * t.length
  | [], _ => rfl
  | r :: rs, h => by
    rw [List.flatten_cons, List.length_append, h r List.mem_cons_self, flat3 (fun x hx => h x (List.mem_cons_of_mem _ hx)), List.length_cons]
    omega
/-- All letters and inverses. -/
def letters (n : Nat) : List Int := (List.range n).map (fun (k : Nat) => (k : Int) + 1) ++ (List.range n).map (fun (k : Nat) => -(k : Int) - 1)
theorem mem_letters {n : Nat} {x : Int} (h0 : x ≠ 0) (h1 : -(n : Int) ≤ x) (h2 : x ≤ n) : x ∈ letters n := by
  unfold letters
  rw [List.mem_append, List.mem_map, List.mem_map]
  by_cases h : 0 < x
  · exact .inl ⟨(x - 1).toNat, List.mem_range.2 (by omega), by omega⟩
  · exact .inr ⟨(-x - 1).toNat, List.mem_range.2 (by omega), by omega⟩
theorem TriOk.all {t : List (List Int)} {n : Int} (ok : TriOk t n) {x : Int} (h0 : x ≠ 0) (h1 : -n ≤ x) (h2 : x ≤ n) : x ∈ t.flatten := by
  apply Classical.byContradiction
  intro hc
  have n3 := ok.n3
  obtain ⟨m, rfl⟩ : ∃ m : Nat, n = m := ⟨n.toNat, by omega⟩
  have hx := mem_letters h0 h1 h2
  have hs : ∀ y, y ∈ t.flatten → y ∈ (letters m).erase x := by
    intro y hy
    have hb := ok.inr y hy
    exact (List.mem_erase_of_ne (fun e => hc (by rw [← e]; exact hy))).2 (mem_letters hb.1 hb.2.1 hb.2.2)
  have hl := List.Nodup.length_le_of_subset ok.nodup hs
  rw [List.length_erase_of_mem hx, flat3 ok.row] at hl
  have : (letters m).length = 2 * m := by unfold letters; simp; omega
  have := ok.len
  omega
theorem sideR_at (x : Int) : ∀ (rs : List (List Int)) (b : Int), 0 ≤ b → x ∈ rs.flatten → ∃ i j : Nat, i < rs.length ∧ ∃ h : i < rs.length, j < rs[i].length ∧ rs[i][j]? = some x ∧ sideR x rs b = (b + i, (j : Int))
  | [], b, _, h => absurd h (by simp)
  | r :: rs, b, hb, h => by
    rw [sideR]
    by_cases hr : 0 ≤ idx x r 0
    · have h1 := idx_at x r 0 (by omega) hr
      have h2 := idx_bd x r 0 (by omega)
      rw [if_pos hr]
      refine ⟨0, (idx x r 0).toNat, by simp, by simp, ?_, ?_, ?_⟩
      · show (idx x r 0).toNat < r.length
        omega
      · show r[(idx x r 0).toNat]? = some x
        rw [Int.sub_zero] at h1
        exact h1
      · have e : ((idx x r 0).toNat : Int) = idx x r 0 := by omega
        rw [e]
        simp
    · rw [if_neg hr]
      rw [List.flatten_cons, List.mem_append] at h
      rcases h with h | h
      · have := idx_hit x r 0 (by omega) h
        exact absurd this.1 hr
      · obtain ⟨i, j, hi, hi', hj, he, hs⟩ := sideR_at x rs (b + 1) (by omega) h
        refine ⟨i + 1, j, by simpa using hi, by simpa using hi, ?_, ?_, ?_⟩
        · simpa using hj
        · simpa using he
        · rw [hs]
          refine Prod.ext ?_ rfl
          show b + 1 + (i : Int) = b + ((i + 1 : Nat) : Int)
          omega
/-- Where a letter stands. -/
theorem TriOk.side {t : List (List Int)} {n : Int} (ok : TriOk t n) {x : Int} (h0 : x ≠ 0) (h1 : -n ≤ x) (h2 : x ≤ n) : ∃ i j : Nat, i < t.length ∧ j < 3 ∧ sideR x t 0 = ((i : Int), (j : Int)) ∧ sideOf t i j = x := by
  obtain ⟨i, j, hi, _, hj, he, hs⟩ := sideR_at x t 0 (by omega) (ok.all h0 h1 h2)
  have h3 := ok.three hi
  refine ⟨i, j, hi, by omega, by rw [hs, Int.zero_add], ?_⟩
  unfold sideOf
  rw [getD_at _ hi, List.getD_eq_getElem?_getD, Nat.mod_eq_of_lt (by omega), he]
  rfl
theorem rd_side {t : List (List Int)} {n : Int} (ok : TriOk t n) {i : Nat} (hi : i < t.length) (j : Nat) : rd (rd_L1 t (i : Int)) (Int.tmod (j : Int) 3) = sideOf t i j := by
  have h3 := ok.three hi
  rw [rdL_nat t i hi, Int.tmod_eq_emod_of_nonneg (by omega), show ((j : Int) % 3) = ((j % 3 : Nat) : Int) by omega, rd_nat _ _ (by omega)]
  unfold sideOf
  rw [getD_at _ hi, getD_at _ (by omega)]
end Go.Proofs.Ytolmicnapemljaa.L

namespace Go.Proofs.Ytolmicnapemljaa.L
open Go.RowKit Go.Proofs.Ytolmicnapemljaa.P Go.Proofs.Ytolmicnapemljaa.Help Go.Proofs.YtolmicnapemljaaW.PrintWords
set_option linter.unusedVariables false
set_option linter.unusedSimpArgs false

/-- The arcs at a corner, twice. -/
def tw (t : List (List Int)) (x : List Int) (i j : Nat) : Int := crd x (sideOf t i j) + crd x (sideOf t i (j + 1)) - crd x (sideOf t i (j + 2))
theorem isF_ok {t : List (List Int)} {x : List Int} (ht : t.length ≤ 1048576) (h : isF t x = true) : TriOk t (edges t) ∧ (x.length : Int) = edges t ∧ x.all co = true ∧ ∀ r ∈ t, fairRow x r = true := by
  unfold isF at h
  rw [Bool.and_eq_true, Bool.and_eq_true, Bool.and_eq_true, decide_eq_true_iff] at h
  exact ⟨isT_ok ht h.1, h.2.1, h.2.2.1, fun r hr => List.all_eq_true.1 h.2.2.2 r hr⟩
theorem tw_even {t : List (List Int)} {x : List Int} {n : Int} (ok : TriOk t n) (hc : x.all co = true) {i : Nat} (hi : i < t.length) (hf : fairRow x t[i] = true) (j : Nat) (hj : j < 3) : 0 ≤ tw t x i j ∧ tw t x i j ≤ 400 ∧ tw t x i j % 2 = 0 := by
  obtain ⟨a, b, c, e, _⟩ := ok.i64 (List.getElem_mem hi)
  have A := crd_bd hc a
  have B := crd_bd hc b
  have C := crd_bd hc c
  have hf2 : decide ((crd x a + crd x b + crd x c) % 2 = 0 ∧ crd x a ≤ crd x b + crd x c ∧ crd x b ≤ crd x a + crd x c ∧ crd x c ≤ crd x a + crd x b) = true := by rw [e] at hf; exact hf
  rw [decide_eq_true_iff] at hf2
  obtain ⟨s0, s1, s2, s3, s4⟩ := sideOf_eq hi e
  unfold tw
  match j, hj with
  | 0, _ => rw [s0, s1, s2]; omega
  | 1, _ => rw [s1, s2, s3]; omega
  | 2, _ => rw [s2, s3, s4]; omega
theorem twice_tw {t : List (List Int)} {n : Int} (ok : TriOk t n) {x : List Int} (hx : (x.length : Int) = n) (hc : x.all co = true) {i : Nat} (hi : i < t.length) (j : Nat) (hj : j < 3) : spec_l15Twice.f t x (i : Int) (j : Int) = some (tw t x i j) := by
  obtain ⟨a, b, c, e, _⟩ := ok.i64 (List.getElem_mem hi)
  obtain ⟨h0, h1, h2⟩ := twice_eq ok hx hc hi e
  obtain ⟨s0, s1, s2, s3, s4⟩ := sideOf_eq hi e
  unfold tw
  match j, hj with
  | 0, _ => rw [s0, s1, s2]; exact h0
  | 1, _ => rw [s1, s2, s3]; exact h1
  | 2, _ => rw [s2, s3, s4]; exact h2
theorem arcsAt_eq {t : List (List Int)} {n : Int} (ok : TriOk t n) {x : List Int} (hx : (x.length : Int) = n) {i : Nat} (hi : i < t.length) (j : Nat) (hj : j < 1000) : arcsAt.f t x (i : Int) (j : Int) = some (crd x (sideOf t i j)) := by
  have n9 := ok.n9
  have h3 := ok.three hi
  have hjl : j % 3 < t[i].length := by omega
  have hs := sideOf_in ok hi j
  have e : rd (rd_L1 t (i : Int)) (Int.tmod (j : Int) 3) = sideOf t i j := by
    rw [rdL_nat t i hi, Int.tmod_eq_emod_of_nonneg (by omega), show ((j : Int) % 3) = ((j % 3 : Nat) : Int) by omega, rd_nat _ _ hjl]
    unfold sideOf
    rw [getD_at _ hi, getD_at _ hjl]
  unfold arcsAt.f
  rw [if_pos (by omega), if_pos (by omega), if_pos (by rw [Int.tmod_eq_emod_of_nonneg (by omega)]; omega), if_pos (by rw [rdL_nat t i hi, Int.tmod_eq_emod_of_nonneg (by omega)]; omega), e, size_eq (by omega) (by omega), Option.bind_some, w_id (by omega) (by omega), if_pos (by omega), if_pos (by omega)]
  rfl
theorem arcs_eq {t : List (List Int)} {n : Int} (ok : TriOk t n) {x : List Int} (hx : (x.length : Int) = n) (hc : x.all co = true) {i : Nat} (hi : i < t.length) (hf : fairRow x t[i] = true) (j : Nat) (hj : j < 3) : impl_arcs.f t x (i : Int) (j : Int) = some (tw t x i j / 2) := by
  have hb := tw_even ok hc hi hf j hj
  have A := crd_bd hc (sideOf t i j)
  have B := crd_bd hc (sideOf t i (j + 1))
  have C := crd_bd hc (sideOf t i (j + 2))
  unfold impl_arcs.f
  rw [arcsAt_eq ok hx hi j (by omega), Option.bind_some, w_id (a := (j : Int) + 1) (by omega) (by omega), show ((j : Int) + 1) = ((j + 1 : Nat) : Int) by omega, arcsAt_eq ok hx hi (j + 1) (by omega), Option.bind_some, w_id (a := (j : Int) + 2) (by omega) (by omega), show ((j : Int) + 2) = ((j + 2 : Nat) : Int) by omega, arcsAt_eq ok hx hi (j + 2) (by omega), Option.bind_some]
  unfold tw at hb ⊢
  rw [w_id (a := crd x (sideOf t i j) + crd x (sideOf t i (j + 1))) (by omega) (by omega), w_id (a := crd x (sideOf t i j) + crd x (sideOf t i (j + 1)) - crd x (sideOf t i (j + 2))) (by omega) (by omega), Int.tdiv_eq_ediv_of_nonneg (by omega), w_id (by omega) (by omega)]
end Go.Proofs.Ytolmicnapemljaa.L

namespace Go.Proofs.Ytolmicnapemljaa.UF
set_option linter.unusedVariables false

/-- The number that a number points to. -/
def P (up : List Int) (i : Int) : Int := up.getD i.toNat 0
/-- The way from i ends at r. -/
inductive Root (up : List Int) : Int → Int → Prop
  | here {r : Int} (h : P up r = r) : Root up r r
  | step {i r : Int} (h : P up i ≠ i) (k : Root up (P up i) r) : Root up i r
theorem Root.root {up : List Int} {i r : Int} (h : Root up i r) : P up r = r := by
  induction h with
  | here h => exact h
  | step _ _ ih => exact ih
theorem Root.uniq {up : List Int} {i r : Int} (h : Root up i r) : ∀ {s : Int}, Root up i s → r = s := by
  induction h with
  | here h =>
    intro s hs
    cases hs with
    | here _ => rfl
    | step h2 _ => exact absurd h h2
  | step h k ih =>
    intro s hs
    cases hs with
    | here h2 => exact absurd h2 h
    | step _ k2 => exact ih k2
/-- A forest: every number points to a number, every way ends. -/
def Ok (up : List Int) : Prop := ∀ i : Int, 0 ≤ i → i < up.length → (0 ≤ P up i ∧ P up i < up.length) ∧ ∃ r, Root up i r
theorem Ok.bd {up : List Int} (h : Ok up) {i r : Int} (hr : Root up i r) : 0 ≤ i → i < up.length → 0 ≤ r ∧ r < up.length := by
  induction hr with
  | here _ => exact fun h0 h1 => ⟨h0, h1⟩
  | step _ _ ih => exact fun h0 h1 => ih (h _ h0 h1).1.1 (h _ h0 h1).1.2
theorem P_set {up : List Int} {a b i : Int} (ha : 0 ≤ a) (ha1 : a < up.length) (hi : 0 ≤ i) : P (up.set a.toNat b) i = if i = a then b else P up i := by
  unfold P
  by_cases h : i = a
  · subst h
    rw [if_pos rfl, List.getD_eq_getElem?_getD, List.getElem?_set_self (by omega)]
    rfl
  · rw [if_neg h, List.getD_eq_getElem?_getD, List.getD_eq_getElem?_getD, List.getElem?_set_ne (by omega)]
theorem set_other {up : List Int} (hok : Ok up) {ra rb : Int} (ha : 0 ≤ ra ∧ ra < up.length) (hra : P up ra = ra) {i r : Int} (h : Root up i r) : 0 ≤ i → i < up.length → r ≠ ra → Root (up.set ra.toNat rb) i r := by
  induction h with
  | here h =>
    intro h0 h1 hne
    exact .here (by rw [P_set ha.1 ha.2 h0, if_neg hne]; exact h)
  | @step i r h k ih =>
    intro h0 h1 hne
    have hi : i ≠ ra := fun e => h (by rw [e]; exact hra)
    have hp : P (up.set ra.toNat rb) i = P up i := by rw [P_set ha.1 ha.2 h0, if_neg hi]
    exact .step (by rw [hp]; exact h) (by rw [hp]; exact ih (hok i h0 h1).1.1 (hok i h0 h1).1.2 hne)
theorem set_same {up : List Int} (hok : Ok up) {ra rb : Int} (ha : 0 ≤ ra ∧ ra < up.length) (hb : 0 ≤ rb ∧ rb < up.length) (hra : P up ra = ra) (hrb : P up rb = rb) {i r : Int} (h : Root up i r) : 0 ≤ i → i < up.length → r = ra → Root (up.set ra.toNat rb) i rb := by
  induction h with
  | @here r h =>
    intro h0 h1 e
    subst e
    by_cases hab : r = rb
    · subst hab
      exact .here (by rw [P_set ha.1 ha.2 h0, if_pos rfl])
    · have hp : P (up.set r.toNat rb) r = rb := by rw [P_set ha.1 ha.2 h0, if_pos rfl]
      refine .step (by rw [hp]; exact fun e => hab e.symm) ?_
      rw [hp]
      exact set_other hok ha hra (.here hrb) hb.1 hb.2 (fun e => hab e.symm)
  | @step i r h k ih =>
    intro h0 h1 e
    have hi : i ≠ ra := fun e => h (by rw [e]; exact hra)
    have hp : P (up.set ra.toNat rb) i = P up i := by rw [P_set ha.1 ha.2 h0, if_neg hi]
    exact .step (by rw [hp]; exact h) (by rw [hp]; exact ih (hok i h0 h1).1.1 (hok i h0 h1).1.2 e)
theorem Ok.set {up : List Int} (hok : Ok up) {ra rb : Int} (ha : 0 ≤ ra ∧ ra < up.length) (hb : 0 ≤ rb ∧ rb < up.length) (hra : P up ra = ra) (hrb : P up rb = rb) : Ok (up.set ra.toNat rb) := by
  intro i h0 h1
  rw [List.length_set] at h1
  refine ⟨?_, ?_⟩
  · rw [P_set ha.1 ha.2 h0, List.length_set]
    split
    · exact hb
    · exact (hok i h0 h1).1
  · obtain ⟨r, hr⟩ := (hok i h0 h1).2
    by_cases e : r = ra
    · exact ⟨rb, set_same hok ha hb hra hrb hr h0 h1 e⟩
    · exact ⟨r, set_other hok ha hra hr h0 h1 e⟩
/-- Two numbers of one class. -/
def Same (up : List Int) (i j : Int) : Prop := ∃ r, Root up i r ∧ Root up j r
/-- Being of one class, as pairs make it, among the numbers below n. -/
inductive Cls (n : Int) (ps : List (Int × Int)) : Int → Int → Prop
  | refl {i : Int} (h0 : 0 ≤ i) (h1 : i < n) : Cls n ps i i
  | pair {i j : Int} (h : (i, j) ∈ ps) (h0 : 0 ≤ i) (h1 : i < n) (h2 : 0 ≤ j) (h3 : j < n) : Cls n ps i j
  | symm {i j : Int} (h : Cls n ps i j) : Cls n ps j i
  | trans {i j k : Int} (h : Cls n ps i j) (h2 : Cls n ps j k) : Cls n ps i k
theorem Cls.bd {n : Int} {ps : List (Int × Int)} {i j : Int} (h : Cls n ps i j) : (0 ≤ i ∧ i < n) ∧ (0 ≤ j ∧ j < n) := by
  induction h with
  | refl h0 h1 => exact ⟨⟨h0, h1⟩, h0, h1⟩
  | pair _ h0 h1 h2 h3 => exact ⟨⟨h0, h1⟩, h2, h3⟩
  | symm _ ih => exact ⟨ih.2, ih.1⟩
  | trans _ _ ih1 ih2 => exact ⟨ih1.1, ih2.2⟩
theorem Cls.mono {n : Int} {ps qs : List (Int × Int)} (hs : ∀ p, p ∈ ps → p ∈ qs) {i j : Int} (h : Cls n ps i j) : Cls n qs i j := by
  induction h with
  | refl h0 h1 => exact .refl h0 h1
  | pair h h0 h1 h2 h3 => exact .pair (hs _ h) h0 h1 h2 h3
  | symm _ ih => exact .symm ih
  | trans _ _ ih1 ih2 => exact .trans ih1 ih2
/-- The forest that stands for pairs. -/
structure Stands (up : List Int) (n : Int) (ps : List (Int × Int)) : Prop where
  ok : Ok up
  len : (up.length : Int) = n
  cls : ∀ i j, Cls n ps i j ↔ (0 ≤ i ∧ i < n) ∧ (0 ≤ j ∧ j < n) ∧ Same up i j
theorem Stands.join {up : List Int} {n : Int} {ps : List (Int × Int)} (h : Stands up n ps) {a b ra rb : Int} (ha : 0 ≤ a ∧ a < n) (hb : 0 ≤ b ∧ b < n) (hra : Root up a ra) (hrb : Root up b rb) :
    Stands (up.set ra.toNat rb) n (ps ++ [(a, b)]) ∧ Stands (up.set rb.toNat ra) n (ps ++ [(a, b)]) := by
  have hl := h.len
  have gen : ∀ (x y rx ry : Int), 0 ≤ x ∧ x < n → 0 ≤ y ∧ y < n → Root up x rx → Root up y ry → (∀ i j, Cls n (ps ++ [(a, b)]) i j ↔ Cls n (ps ++ [(x, y)]) i j) → Stands (up.set rx.toNat ry) n (ps ++ [(a, b)]) := by
    intro x y rx ry hx hy hrx hry heq
    have bx := h.ok.bd hrx hx.1 (by omega)
    have by' := h.ok.bd hry hy.1 (by omega)
    have hok := h.ok.set bx by' hrx.root hry.root
    refine ⟨hok, by rw [List.length_set]; exact hl, fun i j => ?_⟩
    rw [heq]
    constructor
    · intro hc
      refine ⟨hc.bd.1, hc.bd.2, ?_⟩
      induction hc with
      | @refl i h0 h1 =>
        obtain ⟨r, hr⟩ := (hok i h0 (by rw [List.length_set]; omega)).2
        exact ⟨r, hr, hr⟩
      | @pair i j hp h0 h1 h2 h3 =>
        rcases List.mem_append.1 hp with hp | hp
        · obtain ⟨r, r1, r2⟩ := ((h.cls i j).1 (.pair hp h0 h1 h2 h3)).2.2
          by_cases e : r = rx
          · exact ⟨ry, set_same h.ok bx by' hrx.root hry.root r1 h0 (by omega) e, set_same h.ok bx by' hrx.root hry.root r2 h2 (by omega) e⟩
          · exact ⟨r, set_other h.ok bx hrx.root r1 h0 (by omega) e, set_other h.ok bx hrx.root r2 h2 (by omega) e⟩
        · have : (i, j) = (x, y) := by simpa using hp
          obtain ⟨rfl, rfl⟩ := Prod.mk.inj this
          refine ⟨ry, set_same h.ok bx by' hrx.root hry.root hrx h0 (by omega) rfl, ?_⟩
          by_cases e : ry = rx
          · exact set_same h.ok bx by' hrx.root hry.root hry h2 (by omega) e
          · exact set_other h.ok bx hrx.root hry h2 (by omega) e
      | symm _ ih => obtain ⟨r, r1, r2⟩ := ih; exact ⟨r, r2, r1⟩
      | trans _ _ ih1 ih2 =>
        obtain ⟨r, r1, r2⟩ := ih1
        obtain ⟨s, s1, s2⟩ := ih2
        obtain rfl := r2.uniq s1
        exact ⟨r, r1, s2⟩
    · rintro ⟨hi, hj, s, s1, s2⟩
      have old : ∀ i, 0 ≤ i ∧ i < n → Root (up.set rx.toNat ry) i s → ∃ r, Root up i r ∧ (r = rx ∧ s = ry ∨ r ≠ rx ∧ s = r) := by
        intro i hi hs
        obtain ⟨r, hr⟩ := (h.ok i hi.1 (by omega)).2
        refine ⟨r, hr, ?_⟩
        by_cases e : r = rx
        · exact .inl ⟨e, hs.uniq (set_same h.ok bx by' hrx.root hry.root hr hi.1 (by omega) e)⟩
        · exact .inr ⟨e, hs.uniq (set_other h.ok bx hrx.root hr hi.1 (by omega) e)⟩
      have up' : ∀ {i j}, Cls n ps i j → Cls n (ps ++ [(x, y)]) i j := fun hc => hc.mono (fun p hp => List.mem_append_left _ hp)
      have hxy : Cls n (ps ++ [(x, y)]) x y := .pair (by simp) hx.1 hx.2 hy.1 hy.2
      obtain ⟨r1, q1, c1⟩ := old i hi s1
      obtain ⟨r2, q2, c2⟩ := old j hj s2
      have same : ∀ {u v r}, 0 ≤ u ∧ u < n → 0 ≤ v ∧ v < n → Root up u r → Root up v r → Cls n (ps ++ [(x, y)]) u v := fun hu hv a1 a2 => up' ((h.cls _ _).2 ⟨hu, hv, _, a1, a2⟩)
      rcases c1 with ⟨e1, f1⟩ | ⟨e1, f1⟩
      · subst e1
        rcases c2 with ⟨e2, f2⟩ | ⟨e2, f2⟩
        · subst e2
          exact same hi hj q1 q2
        · have : r2 = ry := by rw [← f2]; exact f1
          subst this
          exact (same hi hx q1 hrx).trans (hxy.trans (same hy hj hry q2))
      · rcases c2 with ⟨e2, f2⟩ | ⟨e2, f2⟩
        · subst e2
          have : r1 = ry := by rw [← f1]; exact f2
          subst this
          exact (same hi hy q1 hry).trans (hxy.symm.trans (same hx hj hrx q2))
        · have : r1 = r2 := by rw [← f1]; exact f2
          subst this
          exact same hi hj q1 q2
  refine ⟨gen a b ra rb ha hb hra hrb (fun _ _ => Iff.rfl), gen b a rb ra hb ha hrb hra (fun i j => ?_)⟩
  have swap : ∀ {u v : Int} {i j : Int}, Cls n (ps ++ [(u, v)]) i j → Cls n (ps ++ [(v, u)]) i j := by
    intro u v i j hc
    induction hc with
    | refl h0 h1 => exact .refl h0 h1
    | @pair i j hp h0 h1 h2 h3 =>
      rcases List.mem_append.1 hp with hp | hp
      · exact .pair (List.mem_append_left _ hp) h0 h1 h2 h3
      · have : (i, j) = (u, v) := by simpa using hp
        obtain ⟨rfl, rfl⟩ := Prod.mk.inj this
        exact .symm (.pair (by simp) h2 h3 h0 h1)
    | symm _ ih => exact .symm ih
    | trans _ _ ih1 ih2 => exact .trans ih1 ih2
  exact ⟨swap, swap⟩
/-- The numbers from 0 on, each for itself. -/
def alone (n : Nat) : List Int := (List.range n).map fun (i : Nat) => (i : Int)
theorem alone_P (n : Nat) (i : Int) (h0 : 0 ≤ i) (h1 : i < n) : P (alone n) i = i := by
  unfold P alone
  rw [List.getD_eq_getElem?_getD, List.getElem?_map, List.getElem?_range (by omega)]
  simp
  omega
theorem alone_stands (n : Nat) : Stands (alone n) n [] := by
  have hlen : (alone n).length = n := by simp [alone]
  have hok : Ok (alone n) := by
    intro i h0 h1
    rw [hlen] at h1 ⊢
    have := alone_P n i h0 h1
    exact ⟨by omega, i, .here this⟩
  refine ⟨hok, by rw [hlen], fun i j => ?_⟩
  constructor
  · intro hc
    refine ⟨hc.bd.1, hc.bd.2, ?_⟩
    have : i = j := by
      induction hc with
      | refl _ _ => rfl
      | pair h _ _ _ _ => cases h
      | symm _ ih => exact ih.symm
      | trans _ _ ih1 ih2 => exact ih1.trans ih2
    subst this
    exact ⟨i, .here (alone_P n i hc.bd.1.1 hc.bd.1.2), .here (alone_P n i hc.bd.1.1 hc.bd.1.2)⟩
  · rintro ⟨hi, hj, r, r1, r2⟩
    have e1 := r1.uniq (.here (alone_P n i hi.1 hi.2))
    have e2 := r2.uniq (.here (alone_P n j hj.1 hj.2))
    have : i = j := by rw [← e1, ← e2]
    subst this
    exact .refl hi.1 hi.2
end Go.Proofs.Ytolmicnapemljaa.UF

namespace Go.Proofs.Ytolmicnapemljaa.UF
set_option linter.unusedVariables false
/-- The numbers below n that point to themselves. -/
def roots (up : List Int) : List Nat := (List.range up.length).filter fun k => decide (P up (k : Int) = (k : Int))
theorem roots_nodup (up : List Int) : (roots up).Nodup := List.Pairwise.filter _ List.nodup_range
theorem mem_roots {up : List Int} {k : Nat} : k ∈ roots up ↔ k < up.length ∧ P up (k : Int) = (k : Int) := by
  unfold roots
  rw [List.mem_filter, List.mem_range]
  simp
/-- The root of a number's class. -/
noncomputable def rt (up : List Int) (i : Int) : Int := by
  classical
  exact if h : ∃ r, Root up i r then h.choose else i
theorem rt_of {up : List Int} {i r : Int} (h : Root up i r) : rt up i = r := by
  have hx : ∃ r, Root up i r := ⟨r, h⟩
  unfold rt
  rw [dif_pos hx]
  exact hx.choose_spec.uniq h
theorem Ok.rt {up : List Int} (h : Ok up) {i : Int} (h0 : 0 ≤ i) (h1 : i < up.length) : Root up i (UF.rt up i) := by
  obtain ⟨r, hr⟩ := (h i h0 h1).2
  rw [rt_of hr]
  exact hr
theorem Ok.rt_mem {up : List Int} (h : Ok up) {i : Int} (h0 : 0 ≤ i) (h1 : i < up.length) : (UF.rt up i).toNat ∈ roots up ∧ ((UF.rt up i).toNat : Int) = UF.rt up i := by
  have hr := h.rt h0 h1
  have hb := h.bd hr h0 h1
  have e : ((UF.rt up i).toNat : Int) = UF.rt up i := by omega
  exact ⟨mem_roots.2 ⟨by omega, by rw [e]; exact hr.root⟩, e⟩
theorem map_nodup {α β : Type} (f : α → β) : ∀ {l : List α}, l.Nodup → (∀ a b, a ∈ l → b ∈ l → f a = f b → a = b) → (l.map f).Nodup
  | [], _, _ => List.nodup_nil
  | x :: t, h, hf => by
    have h' := List.nodup_cons.1 h
    rw [List.map_cons, List.nodup_cons]
    refine ⟨fun hc => ?_, map_nodup f h'.2 (fun a b ha hb => hf a b (List.mem_cons_of_mem _ ha) (List.mem_cons_of_mem _ hb))⟩
    obtain ⟨y, hy, e⟩ := List.mem_map.1 hc
    have := hf y x (List.mem_cons_of_mem _ hy) List.mem_cons_self e
    subst this
    exact h'.1 hy
/-- Where a map of numbers parts classes, the second forest has at least as many roots. -/
theorem roots_map {u1 u2 : List Int} {n1 n2 : Int} {p1 p2 : List (Int × Int)} (h1 : Stands u1 n1 p1) (h2 : Stands u2 n2 p2) (f : Int → Int) (hf : ∀ i, 0 ≤ i → i < n1 → 0 ≤ f i ∧ f i < n2)
    (hc : ∀ i j, 0 ≤ i → i < n1 → 0 ≤ j → j < n1 → Cls n2 p2 (f i) (f j) → Cls n1 p1 i j) :
    ((roots u1).map fun (r : Nat) => (rt u2 (f (r : Int))).toNat).Nodup ∧ ∀ x, x ∈ (roots u1).map (fun (r : Nat) => (rt u2 (f (r : Int))).toNat) → x ∈ roots u2 := by
  have l1 := h1.len
  have l2 := h2.len
  have bd : ∀ a, a ∈ roots u1 → 0 ≤ (a : Int) ∧ (a : Int) < n1 := by
    intro a ha
    have := (mem_roots.1 ha).1
    omega
  refine ⟨map_nodup _ (roots_nodup u1) ?_, ?_⟩
  · intro a b ha hb e
    have ba := bd a ha
    have bb := bd b hb
    have fa := hf a ba.1 ba.2
    have fb := hf b bb.1 bb.2
    have ra := h2.ok.rt fa.1 (by omega)
    have rb := h2.ok.rt fb.1 (by omega)
    have ea := (h2.ok.rt_mem fa.1 (by omega)).2
    have eb := (h2.ok.rt_mem fb.1 (by omega)).2
    have e' : rt u2 (f (a : Int)) = rt u2 (f (b : Int)) := by
      rw [← ea, ← eb]
      exact congrArg _ e
    have c2 : Cls n2 p2 (f a) (f b) := (h2.cls _ _).2 ⟨fa, fb, _, ra, by rw [e']; exact rb⟩
    obtain ⟨_, _, s, s1, s2⟩ := (h1.cls _ _).1 (hc a b ba.1 ba.2 bb.1 bb.2 c2)
    have q1 := s1.uniq (.here (mem_roots.1 ha).2)
    have q2 := s2.uniq (.here (mem_roots.1 hb).2)
    omega
  · intro x hx
    obtain ⟨a, ha, rfl⟩ := List.mem_map.1 hx
    have ba := bd a ha
    have fa := hf a ba.1 ba.2
    exact (h2.ok.rt_mem fa.1 (by omega)).1
theorem roots_le {u1 u2 : List Int} {n1 n2 : Int} {p1 p2 : List (Int × Int)} (h1 : Stands u1 n1 p1) (h2 : Stands u2 n2 p2) (f : Int → Int) (hf : ∀ i, 0 ≤ i → i < n1 → 0 ≤ f i ∧ f i < n2)
    (hc : ∀ i j, 0 ≤ i → i < n1 → 0 ≤ j → j < n1 → Cls n2 p2 (f i) (f j) → Cls n1 p1 i j) : (roots u1).length ≤ (roots u2).length := by
  have h := roots_map h1 h2 f hf hc
  have := List.Nodup.length_le_of_subset h.1 h.2
  rwa [List.length_map] at this
theorem roots_perm {u1 u2 : List Int} {n : Int} {p1 p2 : List (Int × Int)} (h1 : Stands u1 n p1) (h2 : Stands u2 n p2) (hc : ∀ i j, Cls n p1 i j ↔ Cls n p2 i j) :
    List.Perm ((roots u1).map fun (r : Nat) => (rt u2 (r : Int)).toNat) (roots u2) := by
  have h := roots_map h1 h2 (fun i => i) (fun i a b => ⟨a, b⟩) (fun i j _ _ _ _ c => (hc i j).2 c)
  have l1 := h1.len
  have l2 := h2.len
  refine (List.perm_ext_iff_of_nodup h.1 (roots_nodup u2)).2 fun x => ⟨h.2 x, fun hx => ?_⟩
  have hb := (mem_roots.1 hx).1
  have m1 := h1.ok.rt_mem (i := (x : Int)) (by omega) (by omega)
  have r1 := h1.ok.rt (i := (x : Int)) (by omega) (by omega)
  have b1 := h1.ok.bd r1 (by omega) (by omega)
  refine List.mem_map.2 ⟨_, m1.1, ?_⟩
  rw [m1.2]
  have c1 : Cls n p1 (x : Int) (rt u1 (x : Int)) := (h1.cls _ _).2 ⟨by omega, by omega, _, r1, .here r1.root⟩
  obtain ⟨_, _, s, s1, s2⟩ := (h2.cls _ _).1 ((hc _ _).1 c1)
  have q1 := s1.uniq (.here (mem_roots.1 hx).2)
  rw [rt_of s2]
  omega
/-- How many numbers have this root. -/
noncomputable def csize (up : List Int) (r : Int) : Nat := ((List.range up.length).filter fun (k : Nat) => decide (rt up (k : Int) = r)).length
theorem csize_eq {u1 u2 : List Int} {n : Int} {p1 p2 : List (Int × Int)} (h1 : Stands u1 n p1) (h2 : Stands u2 n p2) (hc : ∀ i j, Cls n p1 i j ↔ Cls n p2 i j) {r : Nat} (hr : r ∈ roots u1) :
    csize u2 (rt u2 (r : Int)) = csize u1 (r : Int) := by
  have l1 := h1.len
  have l2 := h2.len
  have hb := mem_roots.1 hr
  unfold csize
  have el : u2.length = u1.length := by omega
  rw [el]
  congr 1
  apply List.filter_congr
  intro k hk
  have hk' := List.mem_range.1 hk
  have rk1 := h1.ok.rt (i := (k : Int)) (by omega) (by omega)
  have rk2 := h2.ok.rt (i := (k : Int)) (by omega) (by omega)
  have rr2 := h2.ok.rt (i := (r : Int)) (by omega) (by omega)
  apply decide_eq_decide.2
  constructor
  · intro e
    have c2 : Cls n p2 (k : Int) (r : Int) := (h2.cls _ _).2 ⟨by omega, by omega, _, by rw [← e]; exact rk2, rr2⟩
    obtain ⟨_, _, s, s1, s2⟩ := (h1.cls _ _).1 ((hc _ _).2 c2)
    rw [rt_of s1]
    exact (s2.uniq (.here hb.2))
  · intro e
    have c1 : Cls n p1 (k : Int) (r : Int) := (h1.cls _ _).2 ⟨by omega, by omega, _, rk1, by rw [e]; exact .here hb.2⟩
    obtain ⟨_, _, s, s1, s2⟩ := (h2.cls _ _).1 ((hc _ _).1 c1)
    rw [rt_of s1, rt_of s2]
/-- The sizes of the classes are the same, but for their order. -/
theorem sizes_perm {u1 u2 : List Int} {n : Int} {p1 p2 : List (Int × Int)} (h1 : Stands u1 n p1) (h2 : Stands u2 n p2) (hc : ∀ i j, Cls n p1 i j ↔ Cls n p2 i j) :
    List.Perm ((roots u1).map fun (r : Nat) => (csize u1 (r : Int) : Int)) ((roots u2).map fun (r : Nat) => (csize u2 (r : Int) : Int)) := by
  have h := (roots_perm h1 h2 hc).map fun (r : Nat) => (csize u2 (r : Int) : Int)
  rw [List.map_map] at h
  refine List.Perm.trans (List.Perm.of_eq ?_) h
  apply List.map_congr_left
  intro r hr
  have l1 := h1.len
  have l2 := h2.len
  have hb := (mem_roots.1 hr).1
  have e := (h2.ok.rt_mem (i := (r : Int)) (by omega) (by omega)).2
  show _ = (csize u2 _ : Int)
  rw [e, csize_eq h1 h2 hc hr]
/-- A number put behind the last one that is not greater. -/
def ins (l : List Int) (x : Int) : List Int := match l with
  | [] => [x]
  | y :: t => if y ≤ x then y :: ins t x else x :: y :: t
theorem ins_perm (x : Int) : ∀ l, List.Perm (ins l x) (x :: l)
  | [] => List.Perm.refl _
  | y :: t => by
    unfold ins
    split
    · exact ((ins_perm x t).cons y).trans (List.Perm.swap x y t)
    · exact List.Perm.refl _
theorem ins_sorted (x : Int) : ∀ l : List Int, l.Pairwise (· ≤ ·) → (ins l x).Pairwise (· ≤ ·)
  | [], _ => List.pairwise_singleton _ _
  | y :: t, h => by
    unfold ins
    have h' := List.pairwise_cons.1 h
    split
    · rename_i hy
      refine List.pairwise_cons.2 ⟨fun z hz => ?_, ins_sorted x t h'.2⟩
      rcases List.mem_cons.1 ((ins_perm x t).mem_iff.1 hz) with e | e
      · rw [e]; exact hy
      · exact h'.1 z e
    · rename_i hy
      refine List.pairwise_cons.2 ⟨fun z hz => ?_, h⟩
      rcases List.mem_cons.1 hz with e | e
      · rw [e]; omega
      · have := h'.1 z e
        omega
def isort (l acc : List Int) : List Int := l.foldl ins acc
theorem isort_perm : ∀ (l acc : List Int), List.Perm (isort l acc) (l ++ acc)
  | [], _ => List.Perm.refl _
  | x :: t, acc => by
    show List.Perm (isort t (ins acc x)) _
    refine (isort_perm t _).trans ?_
    refine ((ins_perm x acc).append_left t).trans ?_
    rw [List.cons_append]
    exact List.perm_middle
theorem isort_sorted : ∀ (l acc : List Int), acc.Pairwise (· ≤ ·) → (isort l acc).Pairwise (· ≤ ·)
  | [], _, h => h
  | x :: t, acc, h => isort_sorted t _ (ins_sorted x acc h)
/-- Two lists of the same numbers are sorted to one. -/
theorem isort_eq {l m : List Int} (h : List.Perm l m) : isort l [] = isort m [] := by
  have p := ((isort_perm l []).trans (h.append_right [])).trans (isort_perm m []).symm
  exact p.eq_of_pairwise (fun a b _ _ h1 h2 => Int.le_antisymm h1 h2) (isort_sorted l [] List.Pairwise.nil) (isort_sorted m [] List.Pairwise.nil)
/-- Where the place is found from the end. -/
theorem ins_at : ∀ (l : List Int) (x : Int) (at_ : Nat), at_ ≤ l.length → (∀ j, j < at_ → (h : j < l.length) → l[j] ≤ x) → (∀ h : at_ < l.length, x < l[at_]) → l.take at_ ++ (x :: l.drop at_) = ins l x
  | [], x, at_, h, _, _ => by
    simp
    rfl
  | y :: t, x, 0, _, _, h2 => by
    have := h2 (by simp)
    show x :: y :: t = ins (y :: t) x
    unfold ins
    rw [if_neg (by simpa using this)]
  | y :: t, x, at_ + 1, h, h1, h2 => by
    have hy := h1 0 (by omega) (by simp)
    unfold ins
    rw [if_pos (show y ≤ x from by simpa using hy)]
    rw [List.take_succ_cons, List.drop_succ_cons, List.cons_append]
    rw [ins_at t x at_ (by simpa using h) (fun j hj hl => by have := h1 (j + 1) (by omega) (by simpa using hl); simpa using this) (fun hl => by have := h2 (by simpa using hl); simpa using this)]
end Go.Proofs.Ytolmicnapemljaa.UF

namespace Go.Proofs.Ytolmicnapemljaa.UF
set_option linter.unusedVariables false
theorem Cls.map {n1 n2 : Int} {p1 p2 : List (Int × Int)} (f : Int → Int) (hf : ∀ i, 0 ≤ i → i < n1 → 0 ≤ f i ∧ f i < n2) (hp : ∀ i j, (i, j) ∈ p1 → 0 ≤ i → i < n1 → 0 ≤ j → j < n1 → Cls n2 p2 (f i) (f j)) {i j : Int} (h : Cls n1 p1 i j) : Cls n2 p2 (f i) (f j) := by
  induction h with
  | refl h0 h1 =>
    have := hf _ h0 h1
    exact .refl this.1 this.2
  | pair h h0 h1 h2 h3 => exact hp _ _ h h0 h1 h2 h3
  | symm _ ih => exact ih.symm
  | trans _ _ ih1 ih2 => exact ih1.trans ih2
theorem Stands.same_iff {up : List Int} {n : Int} {ps : List (Int × Int)} (h : Stands up n ps) {i j : Int} (hi : 0 ≤ i ∧ i < n) (hj : 0 ≤ j ∧ j < n) : rt up i = rt up j ↔ Cls n ps i j := by
  have hl := h.len
  have ri := h.ok.rt hi.1 (by omega)
  have rj := h.ok.rt hj.1 (by omega)
  rw [h.cls]
  constructor
  · intro e
    exact ⟨hi, hj, _, ri, by rw [e]; exact rj⟩
  · rintro ⟨_, _, s, s1, s2⟩
    rw [rt_of s1, rt_of s2]
/-- How long a way to a root can be: as long as the forest. -/
inductive Way (up : List Int) : Nat → Int → Int → Prop
  | here {r : Int} (h : P up r = r) : Way up 0 r r
  | step {k : Nat} {i r : Int} (h : P up i ≠ i) (w : Way up k (P up i) r) : Way up (k + 1) i r
theorem Root.way {up : List Int} {i r : Int} (h : Root up i r) : ∃ k, Way up k i r := by
  induction h with
  | here h => exact ⟨0, .here h⟩
  | step h _ ih =>
    obtain ⟨k, hk⟩ := ih
    exact ⟨k + 1, .step h hk⟩
theorem Way.root {up : List Int} {k : Nat} {i r : Int} (h : Way up k i r) : Root up i r := by
  induction h with
  | here h => exact .here h
  | step h _ ih => exact .step h ih
theorem Way.uniq {up : List Int} {k : Nat} {i r : Int} (h : Way up k i r) : ∀ {m : Nat} {s : Int}, Way up m i s → k = m := by
  induction h with
  | here h =>
    intro m s hs
    cases hs with
    | here _ => rfl
    | step h2 _ => exact absurd h h2
  | step h _ ih =>
    intro m s hs
    cases hs with
    | here h2 => exact absurd h2 h
    | step _ k2 => rw [ih k2]
/-- The numbers on a way. -/
def path (up : List Int) : Nat → Int → List Int
  | 0, i => [i]
  | k + 1, i => i :: path up k (P up i)
theorem path_len (up : List Int) : ∀ k i, (path up k i).length = k + 1
  | 0, _ => rfl
  | k + 1, i => by rw [path, List.length_cons, path_len up k]
theorem Way.nodup {up : List Int} {k : Nat} {i r : Int} (h : Way up k i r) : (path up k i).Nodup ∧ ∀ x, x ∈ path up k i → ∃ m, m ≤ k ∧ Way up m x r := by
  induction h with
  | @here r h =>
    refine ⟨by simp [path], fun x hx => ?_⟩
    have : x = r := by simpa [path] using hx
    subst this
    exact ⟨0, Nat.le_refl _, .here h⟩
  | @step k i r h w ih =>
    refine ⟨?_, fun x hx => ?_⟩
    · rw [path, List.nodup_cons]
      refine ⟨fun hc => ?_, ih.1⟩
      obtain ⟨m, hm, hw⟩ := ih.2 _ hc
      have := hw.uniq (Way.step h w)
      omega
    · rw [path] at hx
      rcases List.mem_cons.1 hx with e | e
      · subst e
        exact ⟨k + 1, Nat.le_refl _, .step h w⟩
      · obtain ⟨m, hm, hw⟩ := ih.2 _ e
        exact ⟨m, by omega, hw⟩
theorem Ok.path_bd {up : List Int} (hok : Ok up) : ∀ (k : Nat) (i : Int), 0 ≤ i → i < up.length → ∀ x, x ∈ path up k i → 0 ≤ x ∧ x < up.length
  | 0, i, h0, h1, x, hx => by
    have : x = i := by simpa [path] using hx
    omega
  | k + 1, i, h0, h1, x, hx => by
    rw [path] at hx
    rcases List.mem_cons.1 hx with e | e
    · omega
    · exact Ok.path_bd hok k _ (hok i h0 h1).1.1 (hok i h0 h1).1.2 x e
theorem Way.short {up : List Int} (hok : Ok up) {k : Nat} {i r : Int} (h : Way up k i r) (h0 : 0 ≤ i) (h1 : i < up.length) : k < up.length := by
  have hb := hok.path_bd k i h0 h1
  have hn := map_nodup (fun (x : Int) => x.toNat) h.nodup.1 (fun a b ha hb' e => by
    have := hb a ha
    have := hb b hb'
    have e' : a.toNat = b.toNat := e
    omega)
  have := List.Nodup.length_le_of_subset (l₂ := List.range up.length) hn (fun x hx => by
    obtain ⟨a, ha, rfl⟩ := List.mem_map.1 hx
    have := hb a ha
    exact List.mem_range.2 (by omega))
  rw [List.length_map, path_len, List.length_range] at this
  omega
/-- Every number has a way to its root that is shorter than the forest. -/
theorem Ok.way {up : List Int} (hok : Ok up) {i : Int} (h0 : 0 ≤ i) (h1 : i < up.length) : ∃ k, k < up.length ∧ Way up k i (UF.rt up i) := by
  obtain ⟨k, hk⟩ := (hok.rt h0 h1).way
  exact ⟨k, hk.short hok h0 h1, hk⟩
end Go.Proofs.Ytolmicnapemljaa.UF

namespace Go.Proofs.Ytolmicnapemljaa.L
open Go.RowKit Go.Proofs.Ytolmicnapemljaa.P Go.Proofs.Ytolmicnapemljaa.Help Go.Proofs.YtolmicnapemljaaW.PrintWords
set_option linter.unusedVariables false
set_option linter.unusedSimpArgs false

theorem top_way {up : List Int} (hok : UF.Ok up) {k : Nat} {i r : Int} (h : UF.Way up k i r) : ∀ m, k < m → 0 ≤ i → i < up.length → joiner_top.l0 m up i = some r := by
  induction h with
  | @here r h =>
    intro m hm h0 h1
    obtain ⟨m, rfl⟩ : ∃ q, m = q + 1 := ⟨m - 1, by omega⟩
    simp only [joiner_top.l0]
    rw [if_pos h0, if_pos h1, if_pos (show rd up r = r from h)]
  | @step k i r h w ih =>
    intro m hm h0 h1
    obtain ⟨m, rfl⟩ : ∃ q, m = q + 1 := ⟨m - 1, by omega⟩
    have hb := (hok i h0 h1).1
    simp only [joiner_top.l0]
    rw [if_pos h0, if_pos h1, if_neg (show ¬ rd up i = i from h)]
    exact ih m (by omega) hb.1 hb.2
theorem find_way {up : List Int} (hok : UF.Ok up) {k : Nat} {i r : Int} (h : UF.Way up k i r) : ∀ m, k < m → 0 ≤ i → i < up.length → spec_l3Find.l0 m up i = some r := by
  induction h with
  | @here r h =>
    intro m hm h0 h1
    obtain ⟨m, rfl⟩ : ∃ q, m = q + 1 := ⟨m - 1, by omega⟩
    simp only [spec_l3Find.l0]
    rw [if_pos h0, if_pos h1, if_pos (show rd up r = r from h)]
  | @step k i r h w ih =>
    intro m hm h0 h1
    obtain ⟨m, rfl⟩ : ∃ q, m = q + 1 := ⟨m - 1, by omega⟩
    have hb := (hok i h0 h1).1
    simp only [spec_l3Find.l0]
    rw [if_pos h0, if_pos h1, if_neg (show ¬ rd up i = i from h)]
    exact ih m (by omega) hb.1 hb.2
theorem top_f {up : List Int} (hok : UF.Ok up) {i : Int} (h0 : 0 ≤ i) (h1 : i < up.length) {m : Nat} (hm : up.length ≤ m) : joiner_top.l0 m up i = some (UF.rt up i) := by
  obtain ⟨k, hk, w⟩ := hok.way h0 h1
  exact top_way hok w m (by omega) h0 h1
theorem find3_f {up : List Int} (hok : UF.Ok up) {i : Int} (h0 : 0 ≤ i) (h1 : i < up.length) {m : Nat} (hm : up.length ≤ m) : spec_l3Find.f m up i = some (UF.rt up i) := by
  obtain ⟨k, hk, w⟩ := hok.way h0 h1
  exact find_way hok w m (by omega) h0 h1
theorem join_f {up : List Int} {n : Int} {ps : List (Int × Int)} (h : UF.Stands up n ps) {a b : Int} (ha : 0 ≤ a ∧ a < n) (hb : 0 ≤ b ∧ b < n) {m : Nat} (hm : up.length ≤ m) : ∃ ys, joiner_join.f m up a b = some ys ∧ UF.Stands ys n (ps ++ [(a, b)]) := by
  have hl := h.len
  have ra := h.ok.rt ha.1 (by omega)
  have rb := h.ok.rt hb.1 (by omega)
  have ba := h.ok.bd ra ha.1 (by omega)
  have bb := h.ok.bd rb hb.1 (by omega)
  have J := h.join ha hb ra rb
  unfold joiner_join.f
  rw [top_f h.ok ha.1 (by omega) hm, Option.bind_some, top_f h.ok hb.1 (by omega) hm, Option.bind_some]
  unfold joiner_join.put
  by_cases c : UF.rt up a > UF.rt up b
  · rw [if_pos c, if_pos ba.1, if_pos ba.2]
    exact ⟨_, rfl, J.1⟩
  · rw [if_neg c, if_pos bb.1, if_pos bb.2]
    exact ⟨_, rfl, J.2⟩
theorem alone_succ (n : Nat) : UF.alone (n + 1) = UF.alone n ++ [(n : Int)] := by
  unfold UF.alone
  rw [List.range_succ, List.map_append]
  rfl
theorem alone_len (n : Nat) : (UF.alone n).length = n := by simp [UF.alone]
theorem newJoiner_l0 (n : Nat) (hn : n ≤ 1000000) : ∀ (d k i : Nat), i + d = n → d < k → impl_newJoiner.l0 k (n : Int) (UF.alone i) (i : Int) = some (UF.alone n) := by
  intro d
  induction d with
  | zero =>
    intro k i hi hk
    obtain ⟨k, rfl⟩ : ∃ m, k = m + 1 := ⟨k - 1, by omega⟩
    simp only [impl_newJoiner.l0]
    rw [if_neg (by omega), show i = n by omega]
  | succ d ih =>
    intro k i hi hk
    obtain ⟨k, rfl⟩ : ∃ m, k = m + 1 := ⟨k - 1, by omega⟩
    simp only [impl_newJoiner.l0]
    rw [if_pos (by omega), if_pos (by rw [alone_len]; omega), w_id (by omega) (by omega), show ((i : Int) + 1) = ((i + 1 : Nat) : Int) by omega, ← alone_succ, ih k (i + 1) (by omega) (by omega)]
theorem newJoiner_f (n : Nat) (hn : n ≤ 1000000) (k : Nat) (hk : n < k) : impl_newJoiner.l0 k (n : Int) [] 0 = some (UF.alone n) := newJoiner_l0 n hn n k 0 (by omega) hk
/-- The pairs of all triangles, side by side. -/
def rowG (f : Nat → Nat → List (Int × Int)) (i : Nat) : Nat → Nat → List (Int × Int)
  | 0, _ => []
  | d + 1, j => f i j ++ rowG f i d (j + 1)
def allG (f : Nat → Nat → List (Int × Int)) : Nat → Nat → List (Int × Int)
  | 0, _ => []
  | d + 1, i => rowG f i 3 0 ++ allG f d (i + 1)
theorem mem_rowG {f : Nat → Nat → List (Int × Int)} {i : Nat} {p : Int × Int} : ∀ (d j : Nat), p ∈ rowG f i d j ↔ ∃ q, j ≤ q ∧ q < j + d ∧ p ∈ f i q
  | 0, j => by
    simp only [rowG, List.not_mem_nil, false_iff]
    rintro ⟨q, h1, h2, _⟩
    omega
  | d + 1, j => by
    rw [rowG, List.mem_append, mem_rowG d (j + 1)]
    constructor
    · rintro (h | ⟨q, h1, h2, h3⟩)
      · exact ⟨j, by omega, by omega, h⟩
      · exact ⟨q, by omega, by omega, h3⟩
    · rintro ⟨q, h1, h2, h3⟩
      by_cases e : q = j
      · subst e; exact .inl h3
      · exact .inr ⟨q, by omega, by omega, h3⟩
theorem mem_allG {f : Nat → Nat → List (Int × Int)} {p : Int × Int} : ∀ (d i : Nat), p ∈ allG f d i ↔ ∃ r, i ≤ r ∧ r < i + d ∧ ∃ q, q < 3 ∧ p ∈ f r q
  | 0, i => by
    simp only [allG, List.not_mem_nil, false_iff]
    rintro ⟨q, h1, h2, _⟩
    omega
  | d + 1, i => by
    rw [allG, List.mem_append, mem_rowG, mem_allG d (i + 1)]
    constructor
    · rintro (⟨q, _, h2, h3⟩ | ⟨r, h1, h2, h3⟩)
      · exact ⟨i, by omega, by omega, q, by omega, h3⟩
      · exact ⟨r, by omega, by omega, h3⟩
    · rintro ⟨r, h1, h2, q, h3, h4⟩
      by_cases e : r = i
      · subst e; exact .inl ⟨q, by omega, by omega, h4⟩
      · exact .inr ⟨r, by omega, by omega, q, h3, h4⟩
end Go.Proofs.Ytolmicnapemljaa.L

namespace Go.Proofs.Ytolmicnapemljaa.L
open Go.RowKit Go.Proofs.Ytolmicnapemljaa.P Go.Proofs.Ytolmicnapemljaa.Help Go.Proofs.YtolmicnapemljaaW.PrintWords
set_option linter.unusedVariables false
set_option linter.unusedSimpArgs false

theorem bit_eq (b : Bool) : spec_l1Bit.f b = some (if b = true then 1 else 0) := by
  unfold spec_l1Bit.f
  split <;> rfl
theorem rd_at {t : List (List Int)} {n : Int} (ok : TriOk t n) {i : Nat} (hi : i < t.length) {j : Nat} (hj : j < 3) : rd (rd_L1 t (i : Int)) (j : Int) = sideOf t i j := by
  have := rd_side ok hi j
  rwa [Int.tmod_eq_emod_of_nonneg (by omega), show (j : Int) % 3 = (j : Int) by omega] at this
theorem sideOf_mod (t : List (List Int)) (i j : Nat) : sideOf t i (j % 3) = sideOf t i j := by
  unfold sideOf
  rw [Nat.mod_mod]
theorem flat_at : ∀ {t : List (List Int)}, (∀ r ∈ t, r.length = 3) → ∀ {i j : Nat}, i < t.length → j < 3 → t.flatten[3 * i + j]? = some (sideOf t i j)
  | [], _, i, j, hi, _ => absurd hi (by simp)
  | r :: rs, h, 0, j, hi, hj => by
    have hl := h r List.mem_cons_self
    rw [List.flatten_cons, List.getElem?_append_left (by omega), List.getElem?_eq_getElem (by omega)]
    unfold sideOf
    rw [List.getD_cons_zero, List.getD_eq_getElem?_getD, List.getElem?_eq_getElem (show j % 3 < r.length by omega), Option.getD_some]
    congr 1
    congr 1
    omega
  | r :: rs, h, i + 1, j, hi, hj => by
    have hl := h r List.mem_cons_self
    have ih := flat_at (t := rs) (fun x hx => h x (List.mem_cons_of_mem _ hx)) (i := i) (j := j) (by simpa using hi) hj
    rw [List.flatten_cons, List.getElem?_append_right (by omega), show 3 * (i + 1) + j - r.length = 3 * i + j by omega, ih]
    rfl
/-- A letter stands at one place only. -/
theorem side_inj {t : List (List Int)} {n : Int} (ok : TriOk t n) {i j k l : Nat} (hi : i < t.length) (hj : j < 3) (hk : k < t.length) (hl : l < 3) (e : sideOf t i j = sideOf t k l) : i = k ∧ j = l := by
  have a := flat_at ok.row hi hj
  have b := flat_at ok.row hk hl
  rw [e] at a
  obtain ⟨a1, a2⟩ := List.getElem?_eq_some_iff.1 a
  obtain ⟨b1, b2⟩ := List.getElem?_eq_some_iff.1 b
  have hp := List.pairwise_iff_getElem.1 ok.nodup
  rcases Nat.lt_trichotomy (3 * i + j) (3 * k + l) with h | h | h
  · exact absurd (a2.trans b2.symm) (hp _ _ a1 b1 h)
  · omega
  · exact absurd (b2.trans a2.symm) (hp _ _ b1 a1 h)
theorem side_at {t : List (List Int)} {n : Int} (ok : TriOk t n) {i j : Nat} (hi : i < t.length) (hj : j < 3) : sideR (sideOf t i j) t 0 = ((i : Int), (j : Int)) := by
  have hs := sideOf_in ok hi j
  obtain ⟨o, a, ho, ha, h1, h2⟩ := ok.side hs.1 hs.2.1 hs.2.2
  obtain ⟨rfl, rfl⟩ := side_inj ok ho ha hi hj h2
  exact h1
/-- Corners, and the beginnings and ends of edges. -/
def cor (i j : Nat) : Int := 3 * (i : Int) + ((j % 3 : Nat) : Int)
def Bg (s : Int) : Int := 2 * (s.natAbs : Int) + (if s < 0 then 1 else 0)
def En (s : Int) : Int := 2 * (s.natAbs : Int) + (if s > 0 then 1 else 0)
theorem En_neg {s : Int} (h : s ≠ 0) : En s = Bg (-s) := by
  unfold En Bg
  rw [Int.natAbs_neg]
  split <;> split <;> omega
/-- The place of the inverse of a side. -/
def opp (t : List (List Int)) (i j : Nat) : Nat × Nat := ((sideR (-(sideOf t i j)) t 0).1.toNat, (sideR (-(sideOf t i j)) t 0).2.toNat)
theorem opp_at {t : List (List Int)} {n : Int} (ok : TriOk t n) {i : Nat} (hi : i < t.length) (j : Nat) : (opp t i j).1 < t.length ∧ (opp t i j).2 < 3 ∧ sideOf t (opp t i j).1 (opp t i j).2 = -(sideOf t i j) ∧ sideR (-(sideOf t i j)) t 0 = (((opp t i j).1 : Int), ((opp t i j).2 : Int)) := by
  have hs := sideOf_in ok hi j
  obtain ⟨o, a, ho, ha, h1, h2⟩ := ok.side (x := -(sideOf t i j)) (by omega) (by omega) (by omega)
  unfold opp
  rw [h1]
  exact ⟨ho, ha, h2, rfl⟩
def vp (t : List (List Int)) (i j : Nat) : List (Int × Int) := [(cor i j, cor (opp t i j).1 ((opp t i j).2 + 1)), (cor i (j + 1), cor (opp t i j).1 (opp t i j).2)]
def ep (t : List (List Int)) (i j : Nat) : List (Int × Int) := [(En (sideOf t i j), Bg (sideOf t i (j + 1)))]
theorem cor_bd {t : List (List Int)} {i : Nat} (hi : i < t.length) (j : Nat) : 0 ≤ cor i j ∧ cor i j < 3 * (t.length : Int) := by
  unfold cor
  omega
theorem Bg_bd {t : List (List Int)} {n : Int} (ok : TriOk t n) {i : Nat} (hi : i < t.length) (j : Nat) : 0 ≤ Bg (sideOf t i j) ∧ Bg (sideOf t i j) < 3 * (t.length : Int) + 2 := by
  have hs := sideOf_in ok hi j
  have := ok.len
  unfold Bg
  split <;> omega
theorem En_bd {t : List (List Int)} {n : Int} (ok : TriOk t n) {i : Nat} (hi : i < t.length) (j : Nat) : 0 ≤ En (sideOf t i j) ∧ En (sideOf t i j) < 3 * (t.length : Int) + 2 := by
  have hs := sideOf_in ok hi j
  have := ok.len
  unfold En
  split <;> omega
theorem tmod3 (m : Nat) : Int.tmod (m : Int) 3 = ((m % 3 : Nat) : Int) := by
  rw [Int.tmod_eq_emod_of_nonneg (by omega)]
  omega
theorem w_n {a : Int} {m : Nat} (h : a = (m : Int)) (hm : m ≤ 1000000) : wrap64 a = (m : Int) := by
  rw [h]
  exact w_id (by omega) (by omega)
theorem vert_l1 {t : List (List Int)} {n : Int} (ok : TriOk t n) (ht : t.length ≤ 1048576) (hr : ∀ r ∈ t, r.length ≤ 1048576) {i : Nat} (hi : i < t.length) : ∀ (d j k : Nat) (xs : List Int) (ps : List (Int × Int)), j + d = 3 → 3000100 + d < k → UF.Stands xs (3 * (t.length : Int)) ps →
    ∃ ys, impl_vertices.l1 k t xs (i : Int) (j : Int) = impl_vertices.l0 (k - d - 1) t ys ((i + 1 : Nat) : Int) ∧ UF.Stands ys (3 * (t.length : Int)) (ps ++ rowG (vp t) i d j) := by
  have h3 := ok.three hi
  have hs := ok.short
  have hl : ((rd_L1 t (i : Int)).length : Int) = 3 := by rw [rdL_nat t i hi, h3]; rfl
  intro d
  induction d with
  | zero =>
    intro j k xs ps hj hk h
    obtain ⟨k, rfl⟩ : ∃ m, k = m + 1 := ⟨k - 1, by omega⟩
    refine ⟨xs, ?_, by simpa [rowG] using h⟩
    simp only [impl_vertices.l1]
    rw [hl, if_neg (by omega), w_n (m := i + 1) (by omega) (by omega)]
    rfl
  | succ d ih =>
    intro j k xs ps hj hk h
    obtain ⟨k, rfl⟩ : ∃ m, k = m + 1 := ⟨k - 1, by omega⟩
    have hn := h.len
    have hs1 := sideOf_in ok hi j
    have n9 := ok.n9
    obtain ⟨o1, o2, o3, o4⟩ := opp_at ok hi j
    obtain ⟨ys, e1, S1⟩ := join_f h (a := cor i j) (b := cor (opp t i j).1 ((opp t i j).2 + 1)) (cor_bd hi j) (cor_bd o1 _) (m := k) (by omega)
    have hn1 := S1.len
    obtain ⟨zs, e2, S2⟩ := join_f S1 (a := cor i (j + 1)) (b := cor (opp t i j).1 (opp t i j).2) (cor_bd hi _) (cor_bd o1 _) (m := k) (by omega)
    obtain ⟨us, e3, S3⟩ := ih (j + 1) k zs _ (by omega) (by omega) S2
    refine ⟨us, ?_, ?_⟩
    · simp only [impl_vertices.l1]
      rw [hl, if_pos (by omega), if_pos (by omega), rd_at ok hi (by omega), w_id (a := -(sideOf t i j)) (by omega) (by omega), sideAt_f _ t ht hr k (by omega), Option.bind_some, o4]
      dsimp only
      rw [show wrap64 (3 * (i : Int)) = ((3 * i : Nat) : Int) from w_n (by omega) (by omega), show wrap64 (3 * ((opp t i j).1 : Int)) = ((3 * (opp t i j).1 : Nat) : Int) from w_n (by omega) (by omega),
        show wrap64 (((opp t i j).2 : Int) + 1) = (((opp t i j).2 + 1 : Nat) : Int) from w_n (by omega) (by omega), show wrap64 ((j : Int) + 1) = ((j + 1 : Nat) : Int) from w_n (by omega) (by omega), tmod3, tmod3,
        show wrap64 (((3 * i : Nat) : Int) + (j : Int)) = cor i j from by rw [w_n (m := 3 * i + j) (by omega) (by omega)]; unfold cor; omega,
        show wrap64 (((3 * (opp t i j).1 : Nat) : Int) + (((((opp t i j).2 + 1) % 3 : Nat)) : Int)) = cor (opp t i j).1 ((opp t i j).2 + 1) from by rw [w_n (m := 3 * (opp t i j).1 + ((opp t i j).2 + 1) % 3) (by omega) (by omega)]; unfold cor; omega,
        e1, Option.bind_some,
        show wrap64 (((3 * i : Nat) : Int) + ((((j + 1) % 3 : Nat)) : Int)) = cor i (j + 1) from by rw [w_n (m := 3 * i + (j + 1) % 3) (by omega) (by omega)]; unfold cor; omega,
        show wrap64 (((3 * (opp t i j).1 : Nat) : Int) + ((opp t i j).2 : Int)) = cor (opp t i j).1 (opp t i j).2 from by rw [w_n (m := 3 * (opp t i j).1 + (opp t i j).2) (by omega) (by omega)]; unfold cor; omega,
        e2, Option.bind_some, e3, show k + 1 - (d + 1) - 1 = k - d - 1 by omega]
    · rw [rowG, show vp t i j = [(cor i j, cor (opp t i j).1 ((opp t i j).2 + 1)), (cor i (j + 1), cor (opp t i j).1 (opp t i j).2)] from rfl]
      simpa [List.append_assoc] using S3
theorem vert_l0 {t : List (List Int)} {n : Int} (ok : TriOk t n) (ht : t.length ≤ 1048576) (hr : ∀ r ∈ t, r.length ≤ 1048576) : ∀ (d i k : Nat) (xs : List Int) (ps : List (Int × Int)), i + d = t.length → 3000200 + 5 * d < k → UF.Stands xs (3 * (t.length : Int)) ps →
    ∃ ys, impl_vertices.l0 k t xs (i : Int) = some ys ∧ UF.Stands ys (3 * (t.length : Int)) (ps ++ allG (vp t) d i) := by
  intro d
  induction d with
  | zero =>
    intro i k xs ps hi hk h
    obtain ⟨k, rfl⟩ : ∃ m, k = m + 1 := ⟨k - 1, by omega⟩
    refine ⟨xs, ?_, by simpa [allG] using h⟩
    simp only [impl_vertices.l0]
    rw [if_neg (by omega)]
  | succ d ih =>
    intro i k xs ps hi hk h
    obtain ⟨k, rfl⟩ : ∃ m, k = m + 1 := ⟨k - 1, by omega⟩
    obtain ⟨ys, e1, S1⟩ := vert_l1 ok ht hr (i := i) (by omega) 3 0 k xs ps (by omega) (by omega) h
    obtain ⟨zs, e2, S2⟩ := ih (i + 1) (k - 3 - 1) ys _ (by omega) (by omega) S1
    refine ⟨zs, ?_, by rw [allG, ← List.append_assoc]; exact S2⟩
    simp only [impl_vertices.l0]
    rw [if_pos (by omega), if_pos (by omega)]
    have e1' : impl_vertices.l1 k t xs (i : Int) 0 = impl_vertices.l0 (k - 3 - 1) t ys ((i + 1 : Nat) : Int) := e1
    rw [e1', e2]
theorem vert_f {t : List (List Int)} {n : Int} (ok : TriOk t n) (ht : t.length ≤ 1048576) (hr : ∀ r ∈ t, r.length ≤ 1048576) (k : Nat) (hk : 3000300 < k) : ∃ ys, impl_vertices.f k t = some ys ∧ UF.Stands ys (3 * (t.length : Int)) (allG (vp t) t.length 0) := by
  have hs := ok.short
  have h0 := UF.alone_stands (3 * t.length)
  have e0 : (((3 * t.length : Nat)) : Int) = 3 * (t.length : Int) := by omega
  rw [e0] at h0
  obtain ⟨ys, e, S⟩ := vert_l0 ok ht hr t.length 0 k _ [] (by omega) (by omega) h0
  refine ⟨ys, ?_, by simpa using S⟩
  unfold impl_vertices.f
  rw [show wrap64 (3 * (t.length : Int)) = ((3 * t.length : Nat) : Int) from w_n (by omega) (by omega), newJoiner_f _ (by omega) k (by omega), Option.bind_some]
  exact e
theorem ends_l2 {t : List (List Int)} {n : Int} (ok : TriOk t n) {i : Nat} (hi : i < t.length) : ∀ (d j k : Nat) (xs : List Int) (ps : List (Int × Int)), j + d = 3 → 100 + d < k → UF.Stands xs (3 * (t.length : Int) + 2) ps →
    ∃ ys, spec_l15Ends.l2 k t xs (i : Int) (j : Int) = spec_l15Ends.l1 (k - d - 1) t ys ((i + 1 : Nat) : Int) ∧ UF.Stands ys (3 * (t.length : Int) + 2) (ps ++ rowG (ep t) i d j) := by
  have h3 := ok.three hi
  have hs := ok.short
  have hl : ((rd_L1 t (i : Int)).length : Int) = 3 := by rw [rdL_nat t i hi, h3]; rfl
  intro d
  induction d with
  | zero =>
    intro j k xs ps hj hk h
    obtain ⟨k, rfl⟩ : ∃ m, k = m + 1 := ⟨k - 1, by omega⟩
    refine ⟨xs, ?_, by simpa [rowG] using h⟩
    simp only [spec_l15Ends.l2]
    rw [if_neg (by omega), w_n (m := i + 1) (by omega) (by omega)]
    rfl
  | succ d ih =>
    intro j k xs ps hj hk h
    obtain ⟨k, rfl⟩ : ∃ m, k = m + 1 := ⟨k - 1, by omega⟩
    have hn := h.len
    have a1 := sideOf_in ok hi j
    have a2 := sideOf_in ok hi (j + 1)
    have n9 := ok.n9
    have b1 := En_bd ok hi j
    have b2 := Bg_bd ok hi (j + 1)
    have r1 := h.ok.rt b1.1 (by omega)
    have r2 := h.ok.rt b2.1 (by omega)
    have c1 := h.ok.bd r1 b1.1 (by omega)
    have J := (h.join b1 b2 r1 r2).1
    obtain ⟨us, e3, S3⟩ := ih (j + 1) k _ _ (by omega) (by omega) J
    refine ⟨us, ?_, ?_⟩
    · have x1 : (j : Int) < 3 := by omega
      have x2 : (0 : Int) ≤ (i : Int) := by omega
      have x3 : (i : Int) < (t.length : Int) := by omega
      have x4 : (0 : Int) ≤ (j : Int) := by omega
      have x5 : j < 3 := by omega
      have x6 : k + 1 - (d + 1) - 1 = k - d - 1 := by omega
      have y1 := l3Abs_eq (a := sideOf t i j) (by omega) (by omega)
      have y2 := l3Abs_eq (a := sideOf t i (j + 1)) (by omega) (by omega)
      have z1 := find3_f h.ok b1.1 (m := k) (by omega) (by omega)
      have z2 := find3_f h.ok b2.1 (m := k) (by omega) (by omega)
      have q1 : 0 ≤ Int.tmod (((j + 1 : Nat)) : Int) 3 := by rw [tmod3]; omega
      have q2 : Int.tmod (((j + 1 : Nat)) : Int) 3 < 3 := by rw [tmod3]; omega
      have w1 : wrap64 ((j : Int) + 1) = ((j + 1 : Nat) : Int) := w_n (by omega) (by omega)
      have v1 : wrap64 (wrap64 (2 * ((sideOf t i j).natAbs : Int)) + (if decide (sideOf t i j > 0) = true then 1 else 0)) = En (sideOf t i j) := by
        rw [w_id (a := 2 * ((sideOf t i j).natAbs : Int)) (by omega) (by omega)]
        unfold En
        by_cases c : sideOf t i j > 0
        · rw [if_pos (decide_eq_true c), if_pos c, w_id (by omega) (by omega)]
        · rw [if_neg (by simpa using c), if_neg c, w_id (by omega) (by omega)]
      have v2 : wrap64 (wrap64 (2 * ((sideOf t i (j + 1)).natAbs : Int)) + (if decide (sideOf t i (j + 1) < 0) = true then 1 else 0)) = Bg (sideOf t i (j + 1)) := by
        rw [w_id (a := 2 * ((sideOf t i (j + 1)).natAbs : Int)) (by omega) (by omega)]
        unfold Bg
        by_cases c : sideOf t i (j + 1) < 0
        · rw [if_pos (decide_eq_true c), if_pos c, w_id (by omega) (by omega)]
        · rw [if_neg (by simpa using c), if_neg c, w_id (by omega) (by omega)]
      simp only [spec_l15Ends.l2]
      rw [w1, hl, if_pos x1, if_pos x2, if_pos x3, if_pos x4, if_pos x1, if_pos q1, if_pos q2]
      rw [rd_at ok hi x5, rd_side ok hi, y1, Option.bind_some, bit_eq, Option.bind_some, v1, z1, Option.bind_some, y2, Option.bind_some, bit_eq, Option.bind_some, v2, z2, Option.bind_some, if_pos c1.1, if_pos c1.2, e3, x6]
    · rw [rowG, show ep t i j = [(En (sideOf t i j), Bg (sideOf t i (j + 1)))] from rfl]
      simpa [List.append_assoc] using S3
theorem ends_l1 {t : List (List Int)} {n : Int} (ok : TriOk t n) : ∀ (d i k : Nat) (xs : List Int) (ps : List (Int × Int)), i + d = t.length → 200 + 5 * d < k → UF.Stands xs (3 * (t.length : Int) + 2) ps →
    ∃ ys, spec_l15Ends.l1 k t xs (i : Int) = some ys ∧ UF.Stands ys (3 * (t.length : Int) + 2) (ps ++ allG (ep t) d i) := by
  intro d
  induction d with
  | zero =>
    intro i k xs ps hi hk h
    obtain ⟨k, rfl⟩ : ∃ m, k = m + 1 := ⟨k - 1, by omega⟩
    refine ⟨xs, ?_, by simpa [allG] using h⟩
    simp only [spec_l15Ends.l1]
    rw [if_neg (by omega)]
  | succ d ih =>
    intro i k xs ps hi hk h
    obtain ⟨k, rfl⟩ : ∃ m, k = m + 1 := ⟨k - 1, by omega⟩
    obtain ⟨ys, e1, S1⟩ := ends_l2 ok (i := i) (by omega) 3 0 k xs ps (by omega) (by omega) h
    obtain ⟨zs, e2, S2⟩ := ih (i + 1) (k - 3 - 1) ys _ (by omega) (by omega) S1
    refine ⟨zs, ?_, by rw [allG, ← List.append_assoc]; exact S2⟩
    simp only [spec_l15Ends.l1]
    rw [if_pos (by omega)]
    have e1' : spec_l15Ends.l2 k t xs (i : Int) 0 = spec_l15Ends.l1 (k - 3 - 1) t ys ((i + 1 : Nat) : Int) := e1
    rw [e1', e2]
theorem ends_l0 (t : List (List Int)) (ht : t.length ≤ 1000) : ∀ (d k i : Nat), i + d = 3 * t.length + 2 → d < k → spec_l15Ends.l0 k t (UF.alone i) (i : Int) = spec_l15Ends.l1 (k - d - 1) t (UF.alone (3 * t.length + 2)) 0 := by
  intro d
  induction d with
  | zero =>
    intro k i hi hk
    obtain ⟨k, rfl⟩ : ∃ m, k = m + 1 := ⟨k - 1, by omega⟩
    simp only [spec_l15Ends.l0]
    rw [w_id (a := 3 * (t.length : Int)) (by omega) (by omega), w_id (a := 3 * (t.length : Int) + 1) (by omega) (by omega), if_neg (by omega), show i = 3 * t.length + 2 by omega]
    rfl
  | succ d ih =>
    intro k i hi hk
    obtain ⟨k, rfl⟩ : ∃ m, k = m + 1 := ⟨k - 1, by omega⟩
    simp only [spec_l15Ends.l0]
    rw [w_id (a := 3 * (t.length : Int)) (by omega) (by omega), w_id (a := 3 * (t.length : Int) + 1) (by omega) (by omega), if_pos (by omega), if_pos (by rw [alone_len]; omega), show wrap64 ((i : Int) + 1) = ((i + 1 : Nat) : Int) from w_n (by omega) (by omega), ← alone_succ, ih k (i + 1) (by omega) (by omega), show k + 1 - (d + 1) - 1 = k - d - 1 by omega]
theorem ends_f {t : List (List Int)} {n : Int} (ok : TriOk t n) (k : Nat) (hk : 1000 < k) : ∃ ys, spec_l15Ends.f k t = some ys ∧ UF.Stands ys (3 * (t.length : Int) + 2) (allG (ep t) t.length 0) := by
  have hs := ok.short
  have h0 := UF.alone_stands (3 * t.length + 2)
  have e0 : (((3 * t.length + 2 : Nat)) : Int) = 3 * (t.length : Int) + 2 := by omega
  rw [e0] at h0
  obtain ⟨ys, e, S⟩ := ends_l1 ok t.length 0 (k - (3 * t.length + 2) - 1) _ [] (by omega) (by omega) h0
  refine ⟨ys, ?_, by simpa using S⟩
  unfold spec_l15Ends.f
  have := ends_l0 t (by omega) (3 * t.length + 2) k 0 (by omega) (by omega)
  exact this.trans e
/-- The corner with a beginning. -/
def gm (t : List (List Int)) (e : Int) : Int := if e < 2 then 0 else (let x : Int := if e % 2 = 0 then e / 2 else -(e / 2); 3 * (sideR x t 0).1 + (sideR x t 0).2)
def fm (t : List (List Int)) (c : Int) : Int := Bg (sideOf t (c / 3).toNat (c % 3).toNat)
theorem fm_cor (t : List (List Int)) (i j : Nat) : fm t (cor i j) = Bg (sideOf t i j) := by
  unfold fm cor
  rw [show ((3 * (i : Int) + ((j % 3 : Nat) : Int)) / 3).toNat = i by omega, show ((3 * (i : Int) + ((j % 3 : Nat) : Int)) % 3).toNat = j % 3 by omega, sideOf_mod]
theorem gm_Bg {t : List (List Int)} {n : Int} (ok : TriOk t n) {i j : Nat} (hi : i < t.length) (hj : j < 3) : gm t (Bg (sideOf t i j)) = cor i j := by
  have hs := sideOf_in ok hi j
  have hx : (if Bg (sideOf t i j) % 2 = 0 then Bg (sideOf t i j) / 2 else -(Bg (sideOf t i j) / 2)) = sideOf t i j := by
    unfold Bg
    by_cases c : sideOf t i j < 0
    · rw [if_pos c, if_neg (by omega)]; omega
    · rw [if_neg c, if_pos (by omega)]; omega
  unfold gm
  rw [if_neg (by unfold Bg; split <;> omega), hx]
  dsimp only
  rw [side_at ok hi hj]
  unfold cor
  omega
theorem gm_Bg' {t : List (List Int)} {n : Int} (ok : TriOk t n) {i : Nat} (hi : i < t.length) (j : Nat) : gm t (Bg (sideOf t i j)) = cor i j := by
  have := gm_Bg ok hi (j := j % 3) (by omega)
  rw [sideOf_mod] at this
  rw [this]
  unfold cor
  rw [Nat.mod_mod]
theorem gm_bd {t : List (List Int)} {n : Int} (ok : TriOk t n) (e : Int) (h0 : 0 ≤ e) (h1 : e < 3 * (t.length : Int) + 2) : 0 ≤ gm t e ∧ gm t e < 3 * (t.length : Int) := by
  have hs := ok.short
  have hl := ok.len
  unfold gm
  by_cases c : e < 2
  · rw [if_pos c]; omega
  · rw [if_neg c]
    dsimp only
    obtain ⟨o, a, ho, ha, h2, _⟩ := ok.side (x := if e % 2 = 0 then e / 2 else -(e / 2)) (by split <;> omega) (by split <;> omega) (by split <;> omega)
    rw [h2]
    dsimp only
    omega
/-- The classes are the same ones. -/
theorem cls_fm {t : List (List Int)} {n : Int} (ok : TriOk t n) {c d : Int} (hc : 0 ≤ c ∧ c < 3 * (t.length : Int)) (hd : 0 ≤ d ∧ d < 3 * (t.length : Int)) :
    UF.Cls (3 * (t.length : Int)) (allG (vp t) t.length 0) c d ↔ UF.Cls (3 * (t.length : Int) + 2) (allG (ep t) t.length 0) (fm t c) (fm t d) := by
  have corOf : ∀ c : Int, 0 ≤ c → c < 3 * (t.length : Int) → ∃ i j : Nat, i < t.length ∧ j < 3 ∧ c = cor i j := by
    intro c h0 h1
    exact ⟨(c / 3).toNat, (c % 3).toNat, by omega, by omega, by unfold cor; omega⟩
  have fb : ∀ c : Int, 0 ≤ c → c < 3 * (t.length : Int) → 0 ≤ fm t c ∧ fm t c < 3 * (t.length : Int) + 2 := by
    intro c h0 h1
    obtain ⟨i, j, hi, hj, rfl⟩ := corOf c h0 h1
    rw [fm_cor]
    exact Bg_bd ok hi j
  have epm : ∀ i j : Nat, i < t.length → j < 3 → UF.Cls (3 * (t.length : Int) + 2) (allG (ep t) t.length 0) (En (sideOf t i j)) (Bg (sideOf t i (j + 1))) := by
    intro i j hi hj
    refine .pair ((mem_allG _ _).2 ⟨i, by omega, by omega, j, hj, by simp [ep]⟩) ?_ ?_ ?_ ?_
    · exact (En_bd ok hi j).1
    · exact (En_bd ok hi j).2
    · exact (Bg_bd ok hi (j + 1)).1
    · exact (Bg_bd ok hi (j + 1)).2
  have vpm : ∀ i j : Nat, i < t.length → j < 3 → ∀ p, p ∈ vp t i j → UF.Cls (3 * (t.length : Int)) (allG (vp t) t.length 0) p.1 p.2 := by
    intro i j hi hj p hp
    obtain ⟨o1, o2, o3, o4⟩ := opp_at ok hi j
    have hm : p ∈ allG (vp t) t.length 0 := (mem_allG _ _).2 ⟨i, by omega, by omega, j, hj, hp⟩
    have hp' : p = (cor i j, cor (opp t i j).1 ((opp t i j).2 + 1)) ∨ p = (cor i (j + 1), cor (opp t i j).1 (opp t i j).2) := by simpa [vp] using hp
    rcases hp' with e | e
    · subst e
      exact .pair hm (cor_bd hi _).1 (cor_bd hi _).2 (cor_bd o1 _).1 (cor_bd o1 _).2
    · subst e
      exact .pair hm (cor_bd hi _).1 (cor_bd hi _).2 (cor_bd o1 _).1 (cor_bd o1 _).2
  constructor
  · intro h
    refine h.map (fm t) (fun i a b => fb i a b) ?_
    intro a b hm _ _ _ _
    obtain ⟨i, _, hi, j, hj, hp⟩ := (mem_allG _ _).1 hm
    have hi' : i < t.length := by omega
    obtain ⟨o1, o2, o3, o4⟩ := opp_at ok hi' j
    have hs := sideOf_in ok hi' j
    have hp' : (a, b) = (cor i j, cor (opp t i j).1 ((opp t i j).2 + 1)) ∨ (a, b) = (cor i (j + 1), cor (opp t i j).1 (opp t i j).2) := by simpa [vp] using hp
    rcases hp' with e | e
    · obtain ⟨rfl, rfl⟩ := Prod.mk.inj e
      rw [fm_cor, fm_cor]
      have := epm _ _ o1 o2
      rw [o3, En_neg (by omega), Int.neg_neg] at this
      exact this
    · obtain ⟨rfl, rfl⟩ := Prod.mk.inj e
      rw [fm_cor, fm_cor, o3, ← En_neg hs.1]
      exact (epm i j hi' hj).symm
  · intro h
    have := UF.Cls.map (p2 := allG (vp t) t.length 0) (n2 := 3 * (t.length : Int)) (gm t) (fun e a b => gm_bd ok e a b) (fun a b hm _ _ _ _ => by
      obtain ⟨i, _, hi, j, hj, hp⟩ := (mem_allG _ _).1 hm
      have hi' : i < t.length := by omega
      obtain ⟨o1, o2, o3, o4⟩ := opp_at ok hi' j
      have hs := sideOf_in ok hi' j
      have hp' : (a, b) = (En (sideOf t i j), Bg (sideOf t i (j + 1))) := by simpa [ep] using hp
      obtain ⟨rfl, rfl⟩ := Prod.mk.inj hp'
      rw [En_neg hs.1, ← o3, gm_Bg' ok o1, gm_Bg' ok hi']
      exact (vpm i j hi' hj (cor i (j + 1), cor (opp t i j).1 (opp t i j).2) (by simp [vp])).symm) h
    obtain ⟨i, j, hi, hj, rfl⟩ := corOf c hc.1 hc.2
    obtain ⟨k, l, hk, hl, rfl⟩ := corOf d hd.1 hd.2
    rwa [fm_cor, fm_cor, gm_Bg' ok hi, gm_Bg' ok hk] at this
end Go.Proofs.Ytolmicnapemljaa.L

namespace Go.Proofs.Ytolmicnapemljaa.L
open Go.RowKit Go.Proofs.Ytolmicnapemljaa.P Go.Proofs.Ytolmicnapemljaa.Help Go.Proofs.YtolmicnapemljaaW.PrintWords Go.Proofs.YtolmicnapemljaaW.PrintLast Go.Proofs.YtolmicnapemljaaW.PrintMore
set_option linter.unusedVariables false
set_option linter.unusedSimpArgs false

/-- The number of points on the edges ahead. -/
def offN : List Int → Nat → Nat
  | _, 0 => 0
  | [], _ + 1 => 0
  | a :: r, i + 1 => a.toNat + offN r i
theorem offN_zero (x : List Int) : offN x 0 = 0 := by cases x <;> rfl
theorem offN_succ : ∀ (x : List Int) (i : Nat) (h : i < x.length), offN x (i + 1) = offN x i + x[i].toNat
  | [], i, h => absurd h (by simp)
  | a :: r, 0, h => by simp [offN]
  | a :: r, i + 1, h => by
    have := offN_succ r i (by simpa using h)
    show a.toNat + offN r (i + 1) = a.toNat + offN r i + (r[i]'(by simpa using h)).toNat
    omega
theorem offN_le : ∀ (x : List Int) (i : Nat), (∀ a ∈ x, a ≤ 200) → offN x i ≤ 200 * i
  | _, 0, _ => by simp [offN]
  | [], i + 1, _ => by simp [offN]
  | a :: r, i + 1, h => by
    have h1 := offN_le r i (fun b hb => h b (List.mem_cons_of_mem _ hb))
    have h2 := h a List.mem_cons_self
    show a.toNat + offN r i ≤ 200 * (i + 1)
    omega
theorem offN_top : ∀ (x : List Int) (i : Nat), i ≤ x.length → offN x i ≤ offN x x.length
  | _, 0, _ => by simp [offN]
  | [], i + 1, h => absurd h (by simp)
  | a :: r, i + 1, h => by
    have h1 := offN_top r i (by simpa using h)
    show a.toNat + offN r i ≤ a.toNat + offN r r.length
    omega
def NN (x : List Int) : Nat := offN x x.length
/-- The number of a point of a side. -/
def pt (x : List Int) (s m : Int) : Int := (offN x (s.natAbs - 1) : Int) + (if s > 0 then m else crd x s - 1 - m)
/-- Fair coordinates. -/
structure Cx (t : List (List Int)) (x : List Int) (n : Int) : Prop where
  ok : TriOk t n
  hx : (x.length : Int) = n
  hc : x.all co = true
  hf : ∀ r ∈ t, fairRow x r = true
theorem Cx.small {t : List (List Int)} {x : List Int} {n : Int} (C : Cx t x n) : x.length ≤ 9 ∧ NN x ≤ 1800 := by
  have h1 := C.hx
  have h2 := C.ok.n9
  have h3 := offN_le x x.length (fun a ha => (all_co C.hc a ha).2)
  unfold NN
  omega
theorem crd_at {x : List Int} {s : Int} (h0 : s ≠ 0) (h1 : s.natAbs ≤ x.length) : crd x s = x[s.natAbs - 1]'(by omega) := by
  unfold crd
  rw [show ((s.natAbs : Int) - 1) = ((s.natAbs - 1 : Nat) : Int) by omega, rd_nat]
theorem pt_bd {x : List Int} (hc : x.all co = true) {s : Int} (h0 : s ≠ 0) (h1 : s.natAbs ≤ x.length) {m : Int} (m0 : 0 ≤ m) (m1 : m < crd x s) : 0 ≤ pt x s m ∧ pt x s m < (NN x : Int) := by
  have hl : s.natAbs - 1 < x.length := by omega
  have e := offN_succ x (s.natAbs - 1) hl
  have e2 := offN_top x (s.natAbs - 1 + 1) (by omega)
  have c := all_co hc x[s.natAbs - 1] (List.getElem_mem hl)
  rw [crd_at h0 h1] at m1
  unfold pt NN
  rw [crd_at h0 h1]
  split <;> omega
def offL (x : List Int) : List Int := (List.range x.length).map fun (i : Nat) => (offN x i : Int)
theorem offL_len (x : List Int) : (offL x).length = x.length := by simp [offL]
theorem offL_get (x : List Int) {i : Nat} (h : i < (offL x).length) : (offL x)[i] = (offN x i : Int) := by simp [offL]
theorem first_l0 {x : List Int} (hl : x.length ≤ 9) (hc : x.all co = true) : ∀ (d k i : Nat), i + d = x.length → d < k → impl_curves.l0 k x ((offL x).take i) (offN x i : Int) (i : Int) = some (offL x, (NN x : Int))
  | 0, k, i, hi, hk => by
    obtain ⟨k, rfl⟩ : ∃ m, k = m + 1 := ⟨k - 1, by omega⟩
    simp only [impl_curves.l0]
    rw [if_neg (by omega), List.take_of_length_le (by rw [offL_len]; omega), show i = x.length by omega]
    rfl
  | d + 1, k, i, hi, hk => by
    obtain ⟨k, rfl⟩ : ∃ m, k = m + 1 := ⟨k - 1, by omega⟩
    have hlt : i < x.length := by omega
    have h2 : i < (offL x).length := by rw [offL_len]; omega
    have e := offN_succ x i hlt
    have b := offN_le x i (fun a ha => (all_co hc a ha).2)
    have c := all_co hc x[i] (List.getElem_mem hlt)
    have ih := first_l0 hl hc d k (i + 1) (by omega) (by omega)
    have e3 : (offN x i : Int) + x[i] = (offN x (i + 1) : Int) := by omega
    simp only [impl_curves.l0]
    rw [if_pos (by omega), if_pos (by omega), if_pos (by rw [List.length_take]; omega), rd_nat x i hlt, e3, w_id (a := (offN x (i + 1) : Int)) (by omega) (by omega), w_id (a := (i : Int) + 1) (by omega) (by omega), show ((i : Int) + 1) = ((i + 1 : Nat) : Int) by omega, ← offL_get x h2, ← List.take_succ_eq_append_getElem h2]
    exact ih
theorem curvesPt_f {x : List Int} (hl : x.length ≤ 9) (hc : x.all co = true) {s : Int} (h0 : s ≠ 0) (h1 : s.natAbs ≤ x.length) {m : Int} (m0 : -1000 ≤ m) (m1 : m ≤ 1000) : curvesPt.f (offL x) x s m = some (pt x s m) := by
  have he : s.natAbs - 1 < x.length := by omega
  have h2 : s.natAbs - 1 < (offL x).length := by rw [offL_len]; omega
  have b := offN_le x (s.natAbs - 1) (fun a ha => (all_co hc a ha).2)
  have c := all_co hc x[s.natAbs - 1] (List.getElem_mem he)
  have ec : ((s.natAbs : Int) - 1) = ((s.natAbs - 1 : Nat) : Int) := by omega
  unfold curvesPt.f pt
  rw [size_eq (by omega) (by omega), Option.bind_some, w_id (a := (s.natAbs : Int) - 1) (by omega) (by omega), ec, crd_at h0 h1]
  rw [rd_nat (offL x) _ h2, offL_get x h2, rd_nat x _ he]
  by_cases hs : s < 0
  · rw [if_pos hs, if_pos (by omega), if_pos (by omega), if_pos (by omega), if_neg (by omega), w_id (a := x[s.natAbs - 1] - 1) (by omega) (by omega), w_id (a := x[s.natAbs - 1] - 1 - m) (by omega) (by omega), w_id (by omega) (by omega)]
  · rw [if_neg hs, if_pos (by omega), if_pos (by omega), if_pos (by omega), w_id (by omega) (by omega)]
theorem specPt_l0 {x : List Int} (hl : x.length ≤ 9) (hc : x.all co = true) {s : Int} (h0 : s ≠ 0) (h1 : s.natAbs ≤ x.length) {m : Int} (m0 : -1000 ≤ m) (m1 : m ≤ 1000) : ∀ (d k i : Nat), i + d = s.natAbs - 1 → d < k → spec_l15Point.l0 k x s m (offN x i : Int) (s.natAbs : Int) (i : Int) = some (pt x s m)
  | 0, k, i, hi, hk => by
    obtain ⟨k, rfl⟩ : ∃ q, k = q + 1 := ⟨k - 1, by omega⟩
    have he : i < x.length := by omega
    have b := offN_le x i (fun a ha => (all_co hc a ha).2)
    have c := all_co hc x[i] (List.getElem_mem he)
    have ei : s.natAbs - 1 = i := by omega
    have ec : ((s.natAbs : Int) - 1) = (i : Int) := by omega
    have ecr : crd x s = x[i] := by
      rw [crd_at h0 h1]
      congr 1
    unfold pt
    rw [ecr, ei]
    simp only [spec_l15Point.l0]
    rw [w_id (a := (s.natAbs : Int) - 1) (by omega) (by omega), ec, if_neg (by omega), rd_nat x i he]
    by_cases hs : s > 0
    · rw [if_pos hs, if_pos hs, w_id (by omega) (by omega)]
    · rw [if_neg hs, if_neg hs, if_pos (by omega), if_pos (by omega), w_id (a := (offN x i : Int) + x[i]) (by omega) (by omega), w_id (a := (offN x i : Int) + x[i] - 1) (by omega) (by omega), w_id (by omega) (by omega)]
      congr 1
      omega
  | d + 1, k, i, hi, hk => by
    obtain ⟨k, rfl⟩ : ∃ q, k = q + 1 := ⟨k - 1, by omega⟩
    have he : i < x.length := by omega
    have e := offN_succ x i he
    have b := offN_le x i (fun a ha => (all_co hc a ha).2)
    have c := all_co hc x[i] (List.getElem_mem he)
    have e3 : (offN x i : Int) + x[i] = (offN x (i + 1) : Int) := by omega
    have ih := specPt_l0 hl hc h0 h1 m0 m1 d k (i + 1) (by omega) (by omega)
    conv => lhs; simp only [spec_l15Point.l0]
    rw [w_id (a := (s.natAbs : Int) - 1) (by omega) (by omega), if_pos (by omega), if_pos (by omega), if_pos (by omega), rd_nat x i he, e3, w_id (a := (offN x (i + 1) : Int)) (by omega) (by omega), w_id (a := (i : Int) + 1) (by omega) (by omega), show ((i : Int) + 1) = ((i + 1 : Nat) : Int) by omega]
    exact ih
theorem specPt_f {x : List Int} (hl : x.length ≤ 9) (hc : x.all co = true) {s : Int} (h0 : s ≠ 0) (h1 : s.natAbs ≤ x.length) {m : Int} (m0 : -1000 ≤ m) (m1 : m ≤ 1000) (k : Nat) (hk : 20 < k) : spec_l15Point.f k x s m = some (pt x s m) := by
  unfold spec_l15Point.f
  rw [l3Abs_eq (by omega) (by omega), Option.bind_some]
  have := specPt_l0 hl hc h0 h1 m0 m1 (s.natAbs - 1) k 0 (by omega) (by omega)
  rw [offN_zero] at this
  exact this
def allQ (f : Nat → List (Int × Int)) : Nat → Nat → List (Int × Int)
  | 0, _ => []
  | d + 1, m => f m ++ allQ f d (m + 1)
def prC (t : List (List Int)) (x : List Int) (i j m : Nat) : List (Int × Int) := [(pt x (sideOf t i j) (crd x (sideOf t i j) - 1 - (m : Int)), pt x (sideOf t i (j + 1)) (m : Int))]
def nc (t : List (List Int)) (x : List Int) (i j : Nat) : Nat := (tw t x i j / 2).toNat
def prIJ (t : List (List Int)) (x : List Int) (i j : Nat) : List (Int × Int) := allQ (prC t x i j) (nc t x i j) 0
theorem Cx.arc {t : List (List Int)} {x : List Int} {n : Int} (C : Cx t x n) {i : Nat} (hi : i < t.length) (j : Nat) (hj : j < 3) : tw t x i j / 2 = (nc t x i j : Int) ∧ 0 ≤ tw t x i j ∧ (nc t x i j : Int) ≤ crd x (sideOf t i j) ∧ (nc t x i j : Int) ≤ crd x (sideOf t i (j + 1)) ∧ crd x (sideOf t i j) ≤ 200 ∧ crd x (sideOf t i (j + 1)) ≤ 200 := by
  obtain ⟨a, b, c, e, _⟩ := C.ok.i64 (List.getElem_mem hi)
  have A := crd_bd C.hc a
  have B := crd_bd C.hc b
  have D := crd_bd C.hc c
  have hf2 : decide ((crd x a + crd x b + crd x c) % 2 = 0 ∧ crd x a ≤ crd x b + crd x c ∧ crd x b ≤ crd x a + crd x c ∧ crd x c ≤ crd x a + crd x b) = true := by
    have := C.hf t[i] (List.getElem_mem hi)
    rw [e] at this
    exact this
  rw [decide_eq_true_iff] at hf2
  obtain ⟨s0, s1, s2, s3, s4⟩ := sideOf_eq hi e
  unfold nc tw
  match j, hj with
  | 0, _ => rw [s0, s1, s2]; omega
  | 1, _ => rw [s1, s2, s3]; omega
  | 2, _ => rw [s2, s3, s4]; omega
theorem Cx.side {t : List (List Int)} {x : List Int} {n : Int} (C : Cx t x n) {i : Nat} (hi : i < t.length) (j : Nat) : sideOf t i j ≠ 0 ∧ (sideOf t i j).natAbs ≤ x.length := by
  have h := sideOf_in C.ok hi j
  have h2 := C.hx
  omega
theorem num_c {t : List (List Int)} {x : List Int} {n : Int} (C : Cx t x n) {i : Nat} (hi : i < t.length) (j : Nat) : spec_l3Abs.f (sideOf t i j) = some ((sideOf t i j).natAbs : Int) ∧ impl_size.f (sideOf t i j) = some ((sideOf t i j).natAbs : Int) := by
  have hs := sideOf_in C.ok hi j
  have n9 := C.ok.n9
  exact ⟨l3Abs_eq (by omega) (by omega), size_eq (by omega) (by omega)⟩
theorem im_l3 {t : List (List Int)} {x : List Int} {n : Int} (C : Cx t x n) {i : Nat} (hi : i < t.length) {j : Nat} (hj : j < 3) : ∀ (d k m : Nat) (up : List Int) (ps : List (Int × Int)), m + d = nc t x i j → 4000 + d < k → UF.Stands up (NN x : Int) ps →
    ∃ ys, impl_curves.l3 k t x (offL x) up (i : Int) (j : Int) (sideOf t i j) (sideOf t i (j + 1)) (nc t x i j : Int) (m : Int) = impl_curves.l2 (k - d - 1) t x (offL x) ys (i : Int) ((j + 1 : Nat) : Int) ∧ UF.Stands ys (NN x : Int) (ps ++ allQ (prC t x i j) d m)
  | 0, k, m, up, ps, hm, hk, S => by
    obtain ⟨k, rfl⟩ : ∃ q, k = q + 1 := ⟨k - 1, by omega⟩
    refine ⟨up, ?_, by rw [allQ, List.append_nil]; exact S⟩
    conv => lhs; simp only [impl_curves.l3]
    rw [if_neg (by omega), w_id (a := (j : Int) + 1) (by omega) (by omega), show ((j : Int) + 1) = ((j + 1 : Nat) : Int) by omega, show k + 1 - 0 - 1 = k by omega]
  | d + 1, k, m, up, ps, hm, hk, S => by
    obtain ⟨k, rfl⟩ : ∃ q, k = q + 1 := ⟨k - 1, by omega⟩
    obtain ⟨q1, q2, q3, q4, q5, q6⟩ := C.arc hi j hj
    obtain ⟨z1, z2⟩ := C.side hi j
    obtain ⟨y1, y2⟩ := C.side hi (j + 1)
    obtain ⟨l9, n18⟩ := C.small
    have hl := S.len
    have pa := pt_bd C.hc z1 z2 (m := crd x (sideOf t i j) - 1 - (m : Int)) (by omega) (by omega)
    have pb := pt_bd C.hc y1 y2 (m := (m : Int)) (by omega) (by omega)
    obtain ⟨ys, e1, S1⟩ := join_f S pa pb (m := k) (by omega)
    obtain ⟨zs, e2, S2⟩ := im_l3 C hi hj d k (m + 1) ys _ (by omega) (by omega) S1
    refine ⟨zs, ?_, by rw [allQ]; rw [List.append_assoc] at S2; exact S2⟩
    have er : rd x (((sideOf t i j).natAbs : Int) - 1) = crd x (sideOf t i j) := rfl
    conv => lhs; simp only [impl_curves.l3]
    rw [if_pos (by omega), (num_c C hi j).2, Option.bind_some, w_id (a := ((sideOf t i j).natAbs : Int) - 1) (by omega) (by omega), if_pos (by omega), if_pos (by omega), er, w_id (a := crd x (sideOf t i j) - 1) (by omega) (by omega), w_id (a := crd x (sideOf t i j) - 1 - (m : Int)) (by omega) (by omega), curvesPt_f l9 C.hc z1 z2 (by omega) (by omega), Option.bind_some, curvesPt_f l9 C.hc y1 y2 (by omega) (by omega), Option.bind_some, e1, Option.bind_some, w_id (a := (m : Int) + 1) (by omega) (by omega), show ((m : Int) + 1) = ((m + 1 : Nat) : Int) by omega, show k + 1 - (d + 1) - 1 = k - d - 1 by omega]
    exact e2
theorem im_l2 {t : List (List Int)} {x : List Int} {n : Int} (C : Cx t x n) {i : Nat} (hi : i < t.length) : ∀ (d k j : Nat) (up : List Int) (ps : List (Int × Int)), j + d = 3 → 5000 + 210 * d < k → UF.Stands up (NN x : Int) ps →
    ∃ ys k', k ≤ k' + 210 * d + 1 ∧ impl_curves.l2 k t x (offL x) up (i : Int) (j : Int) = impl_curves.l1 k' t x (offL x) ys ((i + 1 : Nat) : Int) ∧ UF.Stands ys (NN x : Int) (ps ++ rowG (prIJ t x) i d j)
  | 0, k, j, up, ps, hj, hk, S => by
    obtain ⟨k, rfl⟩ : ∃ q, k = q + 1 := ⟨k - 1, by omega⟩
    have hs := C.ok.short
    refine ⟨up, k, by omega, ?_, by rw [rowG, List.append_nil]; exact S⟩
    conv => lhs; simp only [impl_curves.l2]
    rw [if_neg (by omega), w_id (a := (i : Int) + 1) (by omega) (by omega), show ((i : Int) + 1) = ((i + 1 : Nat) : Int) by omega]
  | d + 1, k, j, up, ps, hj, hk, S => by
    obtain ⟨k, rfl⟩ : ∃ q, k = q + 1 := ⟨k - 1, by omega⟩
    have hj3 : j < 3 := by omega
    obtain ⟨q1, q2, q3, q4, q5, q6⟩ := C.arc hi j hj3
    have h3 : (rd_L1 t (i : Int)).length = 3 := by rw [rdL_nat t i hi]; exact C.ok.three hi
    have hr := rd_at C.ok hi hj3
    have hs := rd_side C.ok hi (j + 1)
    have ha := arcs_eq C.ok C.hx C.hc hi (C.hf _ (List.getElem_mem hi)) j hj3
    obtain ⟨ys, e1, S1⟩ := im_l3 C hi hj3 (nc t x i j) k 0 up ps (by omega) (by omega) S
    obtain ⟨zs, k', hk', e2, S2⟩ := im_l2 C hi d (k - nc t x i j - 1) (j + 1) ys _ (by omega) (by omega) S1
    have tm : 0 ≤ Int.tmod ((j + 1 : Nat) : Int) 3 ∧ Int.tmod ((j + 1 : Nat) : Int) 3 < 3 := by rw [Int.tmod_eq_emod_of_nonneg (by omega)]; omega
    refine ⟨zs, k', by omega, ?_, by rw [rowG]; rw [List.append_assoc] at S2; exact S2⟩
    conv => lhs; simp only [impl_curves.l2]
    rw [h3, w_id (a := (j : Int) + 1) (by omega) (by omega), show ((j : Int) + 1) = ((j + 1 : Nat) : Int) by omega, if_pos (by omega), if_pos (by omega), if_pos (by omega), if_pos tm.1, if_pos (show Int.tmod ((j + 1 : Nat) : Int) 3 < ((3 : Nat) : Int) from tm.2), ha, Option.bind_some, hr, hs, q1]
    exact e1.trans e2
theorem im_l1 {t : List (List Int)} {x : List Int} {n : Int} (C : Cx t x n) : ∀ (d k i : Nat) (up : List Int) (ps : List (Int × Int)), i + d = t.length → 6000 + 700 * d < k → UF.Stands up (NN x : Int) ps →
    ∃ ys, impl_curves.l1 k t x (offL x) up (i : Int) = some ys ∧ UF.Stands ys (NN x : Int) (ps ++ allG (prIJ t x) d i)
  | 0, k, i, up, ps, hi, hk, S => by
    obtain ⟨k, rfl⟩ : ∃ q, k = q + 1 := ⟨k - 1, by omega⟩
    refine ⟨up, ?_, by rw [allG, List.append_nil]; exact S⟩
    conv => lhs; simp only [impl_curves.l1]
    rw [if_neg (by omega)]
  | d + 1, k, i, up, ps, hi, hk, S => by
    obtain ⟨k, rfl⟩ : ∃ q, k = q + 1 := ⟨k - 1, by omega⟩
    obtain ⟨ys, k', hk', e1, S1⟩ := im_l2 C (show i < t.length by omega) 3 k 0 up ps (by omega) (Nat.lt_of_lt_of_le (by decide : 5000 + 210 * 3 < 5700) (by omega)) S
    obtain ⟨zs, e2, S2⟩ := im_l1 C d k' (i + 1) ys _ (by omega) (by omega) S1
    refine ⟨zs, ?_, by rw [allG]; rw [List.append_assoc] at S2; exact S2⟩
    conv => lhs; simp only [impl_curves.l1]
    rw [if_pos (by omega), if_pos (by omega)]
    exact e1.trans e2
theorem im_f {t : List (List Int)} {x : List Int} {n : Int} (C : Cx t x n) (k : Nat) (hk : 20000 < k) : ∃ ys, impl_curves.f k t x = some ys ∧ UF.Stands ys (NN x : Int) (allG (prIJ t x) t.length 0) := by
  obtain ⟨l9, n18⟩ := C.small
  have hs := C.ok.short
  obtain ⟨ys, e, S⟩ := im_l1 C t.length k 0 _ _ (by omega) (by omega) (UF.alone_stands (NN x))
  rw [List.nil_append] at S
  refine ⟨ys, ?_, S⟩
  have e0 : impl_curves.l0 k x [] 0 0 = some (offL x, (NN x : Int)) := by
    have := first_l0 l9 C.hc x.length k 0 (by omega) (by omega)
    rw [offN_zero, List.take_zero] at this
    exact this
  unfold impl_curves.f
  rw [e0, Option.bind_some]
  dsimp only
  rw [newJoiner_f (NN x) (by omega) k (by omega), Option.bind_some]
  exact e
theorem sp_l4 {t : List (List Int)} {x : List Int} {n : Int} (C : Cx t x n) {i : Nat} (hi : i < t.length) {j : Nat} (hj : j < 3) : ∀ (d k m : Nat) (up : List Int) (ps : List (Int × Int)), m + d = nc t x i j → 4000 + d < k → UF.Stands up (NN x : Int) ps →
    ∃ ys, spec_l15Curves.l4 k t x up (i : Int) (j : Int) (sideOf t i j) (sideOf t i (j + 1)) (m : Int) = spec_l15Curves.l3 (k - d - 1) t x ys (i : Int) ((j + 1 : Nat) : Int) ∧ UF.Stands ys (NN x : Int) (ps ++ allQ (prC t x i j) d m)
  | 0, k, m, up, ps, hm, hk, S => by
    obtain ⟨k, rfl⟩ : ∃ q, k = q + 1 := ⟨k - 1, by omega⟩
    obtain ⟨q1, q2, q3, q4, q5, q6⟩ := C.arc hi j hj
    refine ⟨up, ?_, by rw [allQ, List.append_nil]; exact S⟩
    conv => lhs; simp only [spec_l15Curves.l4]
    rw [twice_tw C.ok C.hx C.hc hi j hj, Option.bind_some, Int.tdiv_eq_ediv_of_nonneg q2, q1, w_id (a := (nc t x i j : Int)) (by omega) (by omega), if_neg (by omega), w_id (a := (j : Int) + 1) (by omega) (by omega), show ((j : Int) + 1) = ((j + 1 : Nat) : Int) by omega, show k + 1 - 0 - 1 = k by omega]
  | d + 1, k, m, up, ps, hm, hk, S => by
    obtain ⟨k, rfl⟩ : ∃ q, k = q + 1 := ⟨k - 1, by omega⟩
    obtain ⟨q1, q2, q3, q4, q5, q6⟩ := C.arc hi j hj
    obtain ⟨z1, z2⟩ := C.side hi j
    obtain ⟨y1, y2⟩ := C.side hi (j + 1)
    obtain ⟨l9, n18⟩ := C.small
    have hl := S.len
    have pa := pt_bd C.hc z1 z2 (m := crd x (sideOf t i j) - 1 - (m : Int)) (by omega) (by omega)
    have pb := pt_bd C.hc y1 y2 (m := (m : Int)) (by omega) (by omega)
    have ra := S.ok.rt pa.1 (by omega)
    have rb := S.ok.rt pb.1 (by omega)
    have ba := S.ok.bd ra pa.1 (by omega)
    have S1 := (S.join pa pb ra rb).1
    obtain ⟨zs, e2, S2⟩ := sp_l4 C hi hj d k (m + 1) _ _ (by omega) (by omega) S1
    refine ⟨zs, ?_, by rw [allQ]; rw [List.append_assoc] at S2; exact S2⟩
    have er : rd x (((sideOf t i j).natAbs : Int) - 1) = crd x (sideOf t i j) := rfl
    conv => lhs; simp only [spec_l15Curves.l4]
    rw [twice_tw C.ok C.hx C.hc hi j hj, Option.bind_some, Int.tdiv_eq_ediv_of_nonneg q2, q1, w_id (a := (nc t x i j : Int)) (by omega) (by omega), if_pos (by omega), (num_c C hi j).1, Option.bind_some, w_id (a := ((sideOf t i j).natAbs : Int) - 1) (by omega) (by omega), if_pos (by omega), if_pos (by omega), er, w_id (a := crd x (sideOf t i j) - 1) (by omega) (by omega), w_id (a := crd x (sideOf t i j) - 1 - (m : Int)) (by omega) (by omega), specPt_f l9 C.hc z1 z2 (by omega) (by omega) k (by omega), Option.bind_some, find3_f S.ok pa.1 (by omega) (by omega), Option.bind_some, specPt_f l9 C.hc y1 y2 (by omega) (by omega) k (by omega), Option.bind_some, find3_f S.ok pb.1 (by omega) (by omega), Option.bind_some, if_pos ba.1, if_pos ba.2, w_id (a := (m : Int) + 1) (by omega) (by omega), show ((m : Int) + 1) = ((m + 1 : Nat) : Int) by omega, show k + 1 - (d + 1) - 1 = k - d - 1 by omega]
    exact e2
theorem sp_l3 {t : List (List Int)} {x : List Int} {n : Int} (C : Cx t x n) {i : Nat} (hi : i < t.length) : ∀ (d k j : Nat) (up : List Int) (ps : List (Int × Int)), j + d = 3 → 5000 + 210 * d < k → UF.Stands up (NN x : Int) ps →
    ∃ ys k', k ≤ k' + 210 * d + 1 ∧ spec_l15Curves.l3 k t x up (i : Int) (j : Int) = spec_l15Curves.l2 k' t x ys ((i + 1 : Nat) : Int) ∧ UF.Stands ys (NN x : Int) (ps ++ rowG (prIJ t x) i d j)
  | 0, k, j, up, ps, hj, hk, S => by
    obtain ⟨k, rfl⟩ : ∃ q, k = q + 1 := ⟨k - 1, by omega⟩
    have hs := C.ok.short
    refine ⟨up, k, by omega, ?_, by rw [rowG, List.append_nil]; exact S⟩
    conv => lhs; simp only [spec_l15Curves.l3]
    rw [if_neg (by omega), w_id (a := (i : Int) + 1) (by omega) (by omega), show ((i : Int) + 1) = ((i + 1 : Nat) : Int) by omega]
  | d + 1, k, j, up, ps, hj, hk, S => by
    obtain ⟨k, rfl⟩ : ∃ q, k = q + 1 := ⟨k - 1, by omega⟩
    have hj3 : j < 3 := by omega
    obtain ⟨q1, q2, q3, q4, q5, q6⟩ := C.arc hi j hj3
    have h3 : (rd_L1 t (i : Int)).length = 3 := by rw [rdL_nat t i hi]; exact C.ok.three hi
    have hr := rd_at C.ok hi hj3
    have hs := rd_side C.ok hi (j + 1)
    obtain ⟨ys, e1, S1⟩ := sp_l4 C hi hj3 (nc t x i j) k 0 up ps (by omega) (by omega) S
    obtain ⟨zs, k', hk', e2, S2⟩ := sp_l3 C hi d (k - nc t x i j - 1) (j + 1) ys _ (by omega) (by omega) S1
    have tm : 0 ≤ Int.tmod ((j + 1 : Nat) : Int) 3 ∧ Int.tmod ((j + 1 : Nat) : Int) 3 < 3 := by rw [Int.tmod_eq_emod_of_nonneg (by omega)]; omega
    refine ⟨zs, k', by omega, ?_, by rw [rowG]; rw [List.append_assoc] at S2; exact S2⟩
    conv => lhs; simp only [spec_l15Curves.l3]
    rw [h3, w_id (a := (j : Int) + 1) (by omega) (by omega), show ((j : Int) + 1) = ((j + 1 : Nat) : Int) by omega, if_pos (by omega), if_pos (by omega), if_pos (by omega), if_pos (by omega), if_pos (by omega), if_pos tm.1, if_pos (show Int.tmod ((j + 1 : Nat) : Int) 3 < ((3 : Nat) : Int) from tm.2), hr, hs]
    exact e1.trans e2
theorem sp_l2 {t : List (List Int)} {x : List Int} {n : Int} (C : Cx t x n) : ∀ (d k i : Nat) (up : List Int) (ps : List (Int × Int)), i + d = t.length → 6000 + 700 * d < k → UF.Stands up (NN x : Int) ps →
    ∃ ys, spec_l15Curves.l2 k t x up (i : Int) = some ys ∧ UF.Stands ys (NN x : Int) (ps ++ allG (prIJ t x) d i)
  | 0, k, i, up, ps, hi, hk, S => by
    obtain ⟨k, rfl⟩ : ∃ q, k = q + 1 := ⟨k - 1, by omega⟩
    refine ⟨up, ?_, by rw [allG, List.append_nil]; exact S⟩
    conv => lhs; simp only [spec_l15Curves.l2]
    rw [if_neg (by omega)]
  | d + 1, k, i, up, ps, hi, hk, S => by
    obtain ⟨k, rfl⟩ : ∃ q, k = q + 1 := ⟨k - 1, by omega⟩
    obtain ⟨ys, k', hk', e1, S1⟩ := sp_l3 C (show i < t.length by omega) 3 k 0 up ps (by omega) (Nat.lt_of_lt_of_le (by decide : 5000 + 210 * 3 < 5700) (by omega)) S
    obtain ⟨zs, e2, S2⟩ := sp_l2 C d k' (i + 1) ys _ (by omega) (by omega) S1
    refine ⟨zs, ?_, by rw [allG]; rw [List.append_assoc] at S2; exact S2⟩
    conv => lhs; simp only [spec_l15Curves.l2]
    rw [if_pos (by omega)]
    exact e1.trans e2
theorem sp_b1 {t : List (List Int)} {x : List Int} (hl : x.length ≤ 9) (hc : x.all co = true) {i : Nat} (hi : i < x.length) : ∀ (d k q : Nat), q + d = x[i].toNat → d < k → spec_l15Curves.l1 k t x (UF.alone (offN x i + q)) (i : Int) (q : Int) = spec_l15Curves.l0 (k - d - 1) t x (UF.alone (offN x (i + 1))) ((i + 1 : Nat) : Int)
  | 0, k, q, hq, hk => by
    obtain ⟨k, rfl⟩ : ∃ q, k = q + 1 := ⟨k - 1, by omega⟩
    have e := offN_succ x i hi
    have c := all_co hc x[i] (List.getElem_mem hi)
    conv => lhs; simp only [spec_l15Curves.l1]
    rw [if_pos (by omega), if_pos (by omega), rd_nat x i hi, if_neg (by omega), w_id (a := (i : Int) + 1) (by omega) (by omega), show ((i : Int) + 1) = ((i + 1 : Nat) : Int) by omega, show k + 1 - 0 - 1 = k by omega, show offN x i + q = offN x (i + 1) by omega]
  | d + 1, k, q, hq, hk => by
    obtain ⟨k, rfl⟩ : ∃ q, k = q + 1 := ⟨k - 1, by omega⟩
    have b := offN_le x i (fun a ha => (all_co hc a ha).2)
    have c := all_co hc x[i] (List.getElem_mem hi)
    have ih := sp_b1 (t := t) hl hc hi d k (q + 1) (by omega) (by omega)
    conv => lhs; simp only [spec_l15Curves.l1]
    rw [if_pos (by omega), if_pos (by omega), rd_nat x i hi, if_pos (by omega), alone_len, if_pos (by omega), ← alone_succ, w_id (a := (q : Int) + 1) (by omega) (by omega), show ((q : Int) + 1) = ((q + 1 : Nat) : Int) by omega, show k + 1 - (d + 1) - 1 = k - d - 1 by omega]
    exact ih
theorem sp_b0 {t : List (List Int)} {x : List Int} (hl : x.length ≤ 9) (hc : x.all co = true) : ∀ (d k i : Nat), i + d = x.length → 205 * d + 1 < k → ∃ k', k ≤ k' + 205 * d + 1 ∧ spec_l15Curves.l0 k t x (UF.alone (offN x i)) (i : Int) = spec_l15Curves.l2 k' t x (UF.alone (NN x)) 0
  | 0, k, i, hi, hk => by
    obtain ⟨k, rfl⟩ : ∃ q, k = q + 1 := ⟨k - 1, by omega⟩
    refine ⟨k, by omega, ?_⟩
    conv => lhs; simp only [spec_l15Curves.l0]
    rw [if_neg (by omega), show i = x.length by omega]
    rfl
  | d + 1, k, i, hi, hk => by
    obtain ⟨k, rfl⟩ : ∃ q, k = q + 1 := ⟨k - 1, by omega⟩
    have hlt : i < x.length := by omega
    have c := all_co hc x[i] (List.getElem_mem hlt)
    have e1 := sp_b1 (t := t) hl hc hlt x[i].toNat k 0 (by omega) (by omega)
    obtain ⟨k', hk', e2⟩ := sp_b0 (t := t) hl hc d (k - x[i].toNat - 1) (i + 1) (by omega) (by omega)
    refine ⟨k', by omega, ?_⟩
    conv => lhs; simp only [spec_l15Curves.l0]
    rw [if_pos (by omega)]
    exact e1.trans e2
theorem sp_f {t : List (List Int)} {x : List Int} {n : Int} (C : Cx t x n) (k : Nat) (hk : 20000 < k) : ∃ ys, spec_l15Curves.f k t x = some ys ∧ UF.Stands ys (NN x : Int) (allG (prIJ t x) t.length 0) := by
  obtain ⟨l9, n18⟩ := C.small
  have hs := C.ok.short
  obtain ⟨k', hk', e0⟩ := sp_b0 (t := t) l9 C.hc x.length k 0 (by omega) (by omega)
  rw [offN_zero] at e0
  obtain ⟨ys, e, S⟩ := sp_l2 C t.length k' 0 _ _ (by omega) (by omega) (UF.alone_stands (NN x))
  rw [List.nil_append] at S
  refine ⟨ys, ?_, S⟩
  unfold spec_l15Curves.f
  exact e0.trans e
end Go.Proofs.Ytolmicnapemljaa.L

namespace Go.Proofs.Ytolmicnapemljaa.L
open Go.RowKit Go.Proofs.Ytolmicnapemljaa.P Go.Proofs.Ytolmicnapemljaa.Help Go.Proofs.YtolmicnapemljaaW.PrintWords Go.Proofs.YtolmicnapemljaaW.PrintLast Go.Proofs.YtolmicnapemljaaW.PrintMore
set_option linter.unusedVariables false
set_option linter.unusedSimpArgs false

/-- How many of the numbers below i have this root. -/
noncomputable def szI (up : List Int) (i : Nat) (r : Nat) : Nat := ((List.range i).filter fun (k : Nat) => decide (UF.rt up (k : Int) = (r : Int))).length
theorem szI_succ (up : List Int) (i r : Nat) : szI up (i + 1) r = szI up i r + (if UF.rt up (i : Int) = (r : Int) then 1 else 0) := by
  unfold szI
  rw [List.range_succ, List.filter_append, List.length_append]
  congr 1
  by_cases h : UF.rt up (i : Int) = (r : Int)
  · rw [if_pos h]; simp [h]
  · rw [if_neg h]; simp [h]
theorem szI_le (up : List Int) (r : Nat) : ∀ i, szI up i r ≤ i
  | 0 => Nat.le_refl _
  | i + 1 => by
    have := szI_le up r i
    rw [szI_succ]
    split <;> omega
noncomputable def szL (up : List Int) (i : Nat) : List Int := (List.range up.length).map fun (r : Nat) => (szI up i r : Int)
theorem szL_len (up : List Int) (i : Nat) : (szL up i).length = up.length := by simp [szL]
theorem szL_get (up : List Int) (i : Nat) {r : Nat} (h : r < (szL up i).length) : (szL up i)[r] = (szI up i r : Int) := by simp [szL]
theorem szL_step {up : List Int} {i r : Nat} (hr : r < up.length) (e : UF.rt up (i : Int) = (r : Int)) : (szL up i).set r ((szI up i r : Int) + 1) = szL up (i + 1) := by
  apply List.ext_getElem
  · simp [szL]
  · intro j h1 h2
    have hj : j < up.length := by rw [szL_len] at h2; exact h2
    rw [List.getElem_set, szL_get up (i + 1) h2, szI_succ]
    by_cases c : r = j
    · subst c
      rw [if_pos rfl, if_pos e]
      omega
    · rw [if_neg c, szL_get up i (by rw [szL_len]; exact hj), if_neg (by rw [e]; omega)]
      rfl
theorem szL_zero (up : List Int) : szL up 0 = List.replicate up.length 0 := by
  apply List.ext_getElem
  · simp [szL]
  · intro j h1 h2
    rw [szL_get]
    simp [szI]
theorem len_l0 {up : List Int} (hok : UF.Ok up) (hu : up.length ≤ 1800) : ∀ (d k i : Nat), i + d = up.length → 2000 + d < k → spec_CurveLengths.l0 k [] up (szL up i) (i : Int) = spec_CurveLengths.l1 (k - d - 1) [] (szL up up.length) 0
  | 0, k, i, hi, hk => by
    obtain ⟨k, rfl⟩ : ∃ q, k = q + 1 := ⟨k - 1, by omega⟩
    conv => lhs; simp only [spec_CurveLengths.l0]
    rw [if_neg (by omega), show i = up.length by omega, show k + 1 - 0 - 1 = k by omega]
  | d + 1, k, i, hi, hk => by
    obtain ⟨k, rfl⟩ : ∃ q, k = q + 1 := ⟨k - 1, by omega⟩
    have hr := hok.rt (i := (i : Int)) (by omega) (by omega)
    have hb := hok.bd hr (by omega) (by omega)
    obtain ⟨r, er⟩ : ∃ r : Nat, UF.rt up (i : Int) = (r : Int) := ⟨(UF.rt up (i : Int)).toNat, by omega⟩
    have hrl : r < (szL up i).length := by rw [szL_len]; omega
    have hrl2 : r < up.length := by omega
    have hle := szI_le up r i
    have ih := len_l0 hok hu d k (i + 1) (by omega) (by omega)
    have hlen := szL_len up i
    conv => lhs; simp only [spec_CurveLengths.l0]
    rw [if_pos (by omega), find3_f hok (by omega) (by omega) (by omega), Option.bind_some, Option.bind_some, er, if_pos (by omega), if_pos (by omega), if_pos (by omega), if_pos (by omega), rd_nat _ r hrl, szL_get, w_id (a := (szI up i r : Int) + 1) (by omega) (by omega), Int.toNat_natCast, szL_step hrl2 er, w_id (a := (i : Int) + 1) (by omega) (by omega), show ((i : Int) + 1) = ((i + 1 : Nat) : Int) by omega, show k + 1 - (d + 1) - 1 = k - d - 1 by omega]
    exact ih
/-- The sizes that are not 0. -/
noncomputable def posL (up : List Int) : Nat → Nat → List Int
  | 0, _ => []
  | d + 1, i => if szI up up.length i > 0 then (szI up up.length i : Int) :: posL up d (i + 1) else posL up d (i + 1)
theorem put_l0 (l : List Int) (v : Int) (hs : l.Pairwise (· ≤ ·)) (hl : l.length ≤ 2000) : ∀ (q k : Nat), q ≤ l.length → (∀ h : q < l.length, v < l[q]) → q < k → spec_l9Put.l0 k l v (q : Int) = some (UF.ins l v)
  | 0, k, hq, hv, hk => by
    obtain ⟨k, rfl⟩ : ∃ m, k = m + 1 := ⟨k - 1, by omega⟩
    have e := UF.ins_at l v 0 (by omega) (fun j hj => absurd hj (by omega)) hv
    conv => lhs; simp only [spec_l9Put.l0]
    rw [if_neg (by omega), Option.bind_some, if_pos (by omega), if_pos (by omega), Option.bind_some, Int.toNat_natCast, if_pos (by simp; omega), Option.bind_some, Option.bind_some, if_pos (by simp), Option.bind_some, if_pos (by simp; omega), List.nil_append, List.append_assoc]
    rw [← e]
    rfl
  | q + 1, k, hq, hv, hk => by
    obtain ⟨k, rfl⟩ : ∃ m, k = m + 1 := ⟨k - 1, by omega⟩
    have hlt : q < l.length := by omega
    conv => lhs; simp only [spec_l9Put.l0]
    rw [if_pos (by omega), w_id (a := ((q + 1 : Nat) : Int) - 1) (by omega) (by omega), show (((q + 1 : Nat) : Int) - 1) = (q : Int) by omega, if_pos (by omega), if_pos (by omega), rd_nat l q hlt]
    by_cases c : l[q] > v
    · rw [if_pos c]
      exact put_l0 l v hs hl q k (by omega) (fun _ => c) (by omega)
    · have e := UF.ins_at l v (q + 1) (by omega) (fun j hj h => by
        by_cases ej : j = q
        · subst ej; omega
        · have := List.pairwise_iff_getElem.1 hs j q h hlt (by omega)
          omega) hv
      rw [if_neg c, Option.bind_some, if_pos (by omega), if_pos (by omega), Option.bind_some, Int.toNat_natCast, if_pos (by simp; omega), Option.bind_some, Option.bind_some, if_pos (by rw [List.length_take]; omega), Option.bind_some, if_pos (by simp; omega), List.nil_append, List.append_assoc]
      rw [← e]
      rfl
theorem put_f (l : List Int) (v : Int) (hs : l.Pairwise (· ≤ ·)) (hl : l.length ≤ 2000) (k : Nat) (hk : 2000 < k) : spec_l9Put.f k l v = some (UF.ins l v) := by
  unfold spec_l9Put.f
  exact put_l0 l v hs hl l.length k (Nat.le_refl _) (fun h => absurd h (Nat.lt_irrefl _)) (by omega)
theorem len_l1 {up : List Int} (hu : up.length ≤ 1800) : ∀ (d k i : Nat) (out : List Int), i + d = up.length → 2100 + d < k → out.Pairwise (· ≤ ·) → out.length ≤ i → spec_CurveLengths.l1 k out (szL up up.length) (i : Int) = some (UF.isort (posL up d i) out)
  | 0, k, i, out, hi, hk, hs, ho => by
    obtain ⟨k, rfl⟩ : ∃ q, k = q + 1 := ⟨k - 1, by omega⟩
    have hlen := szL_len up up.length
    conv => lhs; simp only [spec_CurveLengths.l1]
    rw [if_neg (by omega)]
    rfl
  | d + 1, k, i, out, hi, hk, hs, ho => by
    obtain ⟨k, rfl⟩ : ∃ q, k = q + 1 := ⟨k - 1, by omega⟩
    have hlen := szL_len up up.length
    have hrl : i < (szL up up.length).length := by omega
    conv => lhs; simp only [spec_CurveLengths.l1]
    rw [if_pos (by omega), if_pos (by omega), rd_nat _ i hrl, szL_get, w_id (a := (i : Int) + 1) (by omega) (by omega), show ((i : Int) + 1) = ((i + 1 : Nat) : Int) by omega, posL]
    by_cases c : szI up up.length i > 0
    · have hil := (UF.ins_perm (szI up up.length i : Int) out).length_eq
      rw [List.length_cons] at hil
      rw [if_pos (by omega), if_pos c, put_f out _ hs (by omega) k (by omega), Option.bind_some]
      exact len_l1 hu d k (i + 1) _ (by omega) (by omega) (UF.ins_sorted _ out hs) (by omega)
    · rw [if_neg (by omega), if_neg c]
      exact len_l1 hu d k (i + 1) out (by omega) (by omega) hs (by omega)
theorem szI_pos {up : List Int} (hok : UF.Ok up) {r : Nat} (hr : r < up.length) : szI up up.length r > 0 ↔ UF.P up (r : Int) = (r : Int) := by
  constructor
  · intro h
    unfold szI at h
    obtain ⟨k, hk⟩ := List.exists_mem_of_length_pos h
    obtain ⟨h1, h2⟩ := List.mem_filter.1 hk
    rw [List.mem_range] at h1
    have e : UF.rt up (k : Int) = (r : Int) := by simpa using h2
    have := (hok.rt (i := (k : Int)) (by omega) (by omega)).root
    rw [e] at this
    exact this
  · intro h
    have e : UF.rt up (r : Int) = (r : Int) := UF.rt_of (.here h)
    unfold szI
    exact List.length_pos_of_mem (List.mem_filter.2 ⟨List.mem_range.2 hr, decide_eq_true e⟩)
theorem posL_eq {up : List Int} (hok : UF.Ok up) : ∀ (d i : Nat), i + d = up.length → posL up d i = ((List.range' i d).filter fun (k : Nat) => decide (UF.P up (k : Int) = (k : Int))).map fun (r : Nat) => (szI up up.length r : Int)
  | 0, i, _ => rfl
  | d + 1, i, hi => by
    have ih := posL_eq hok d (i + 1) (by omega)
    have hp := szI_pos hok (show i < up.length by omega)
    rw [posL, List.range'_succ]
    by_cases c : szI up up.length i > 0
    · have hd : (fun (k : Nat) => decide (UF.P up (k : Int) = (k : Int))) i = true := decide_eq_true (hp.1 c)
      rw [if_pos c, List.filter_cons_of_pos (p := fun (k : Nat) => decide (UF.P up (k : Int) = (k : Int))) hd, List.map_cons, ih]
    · have hd : ¬ ((fun (k : Nat) => decide (UF.P up (k : Int) = (k : Int))) i = true) := fun h => c (hp.2 (of_decide_eq_true h))
      rw [if_neg c, List.filter_cons_of_neg (p := fun (k : Nat) => decide (UF.P up (k : Int) = (k : Int))) hd, ih]
theorem posL_len {up : List Int} (hok : UF.Ok up) : (posL up up.length 0).length = (UF.roots up).length := by
  rw [posL_eq hok up.length 0 (by omega), List.length_map]
  unfold UF.roots
  rw [List.range_eq_range']
/-- The lengths, as the reference tells them. -/
theorem spec_len {t : List (List Int)} {x : List Int} {n : Int} (C : Cx t x n) (hF : isF t x = true) (ht : t.length ≤ 1048576) (k : Nat) (hk : 7000000 < k) : ∃ ys, UF.Stands ys (NN x : Int) (allG (prIJ t x) t.length 0) ∧ spec_CurveLengths.f k t x = some (UF.isort (posL ys ys.length 0) []) := by
  obtain ⟨ys, e, S⟩ := sp_f C k (by omega)
  have hl := S.len
  have hs := C.small
  have h0 := len_l0 S.ok (by omega) ys.length k 0 (by omega) (by omega)
  have h1 := len_l1 (up := ys) (by omega) ys.length (k - ys.length - 1) 0 [] (by omega) (by omega) List.Pairwise.nil (by simp)
  refine ⟨ys, S, ?_⟩
  unfold spec_CurveLengths.f
  rw [Option.bind_some, spec_fair t ht x k (by omega), Option.bind_some, if_pos hF, e, Option.bind_some, if_pos (by omega), if_pos (by omega), Int.toNat_natCast, ← szL_zero]
  exact h0.trans h1
def cntR (up : List Int) (i : Nat) : Nat := ((List.range i).filter fun (k : Nat) => decide (UF.P up (k : Int) = (k : Int))).length
theorem cntR_succ (up : List Int) (i : Nat) : cntR up (i + 1) = cntR up i + (if UF.P up (i : Int) = (i : Int) then 1 else 0) := by
  unfold cntR
  rw [List.range_succ, List.filter_append, List.length_append]
  congr 1
  by_cases h : UF.P up (i : Int) = (i : Int)
  · rw [if_pos h]; simp [h]
  · rw [if_neg h]; simp [h]
theorem cntR_le (up : List Int) : ∀ i, cntR up i ≤ i
  | 0 => Nat.le_refl _
  | i + 1 => by
    have := cntR_le up i
    rw [cntR_succ]
    split <;> omega
theorem P_rd (up : List Int) (i : Nat) : UF.P up (i : Int) = rd up (i : Int) := rfl
theorem count_l0 (up : List Int) (hu : up.length ≤ 2000) : ∀ (d k i : Nat), i + d = up.length → d < k → joiner_count.l0 k up (cntR up i : Int) (i : Int) = some ((UF.roots up).length : Int)
  | 0, k, i, hi, hk => by
    obtain ⟨k, rfl⟩ : ∃ m, k = m + 1 := ⟨k - 1, by omega⟩
    simp only [joiner_count.l0]
    rw [if_neg (by omega), show i = up.length by omega]
    rfl
  | d + 1, k, i, hi, hk => by
    obtain ⟨k, rfl⟩ : ∃ m, k = m + 1 := ⟨k - 1, by omega⟩
    have hc := cntR_le up i
    have ih := count_l0 up hu d k (i + 1) (by omega) (by omega)
    rw [cntR_succ, P_rd] at ih
    simp only [joiner_count.l0]
    rw [if_pos (by omega), if_pos (by omega), w_id (a := (i : Int) + 1) (by omega) (by omega), show ((i : Int) + 1) = ((i + 1 : Nat) : Int) by omega]
    by_cases h : rd up (i : Int) = (i : Int)
    · rw [if_pos h.symm, w_id (by omega) (by omega)]
      rw [if_pos h] at ih
      rw [show ((cntR up i : Int) + 1) = ((cntR up i + 1 : Nat) : Int) by omega]
      exact ih
    · rw [if_neg (fun e => h e.symm)]
      rw [if_neg h, Nat.add_zero] at ih
      exact ih
theorem roots_same {u1 u2 : List Int} {n : Int} {ps : List (Int × Int)} (h1 : UF.Stands u1 n ps) (h2 : UF.Stands u2 n ps) : (UF.roots u1).length = (UF.roots u2).length := by
  have := (UF.roots_perm h1 h2 (fun i j => Iff.rfl)).length_eq
  rwa [List.length_map] at this
theorem cx_of {t : List (List Int)} {x : List Int} (ht : t.length ≤ 1048576) (h : isF t x = true) : Cx t x (edges t) := by
  obtain ⟨h1, h2, h3, h4⟩ := isF_ok ht h
  exact ⟨h1, h2, h3, h4⟩
theorem count_both (t : List (List Int)) (ht : t.length ≤ 1048576) (x : List Int) (k : Nat) (hk : 7000000 < k) : ∃ c, spec_CountCurves.f k t x = some c ∧ impl_CountCurves.f k t x = some c := by
  unfold spec_CountCurves.f impl_CountCurves.f
  rw [spec_fair t ht x k (by omega), impl_fair t ht x k (by omega), Option.bind_some, Option.bind_some]
  by_cases h : isF t x = true
  · have C := cx_of ht h
    have hs := C.small
    obtain ⟨ys, S1, e1⟩ := spec_len C h ht k hk
    obtain ⟨zs, e2, S2⟩ := im_f C k (by omega)
    have hl := S2.len
    have e3 := count_l0 zs (by omega) zs.length k 0 (by omega) (by omega)
    refine ⟨((UF.roots zs).length : Int), ?_, ?_⟩
    · rw [if_pos h, e1, Option.bind_some, (UF.isort_perm _ _).length_eq, List.append_nil, posL_len S1.ok, roots_same S1 S2]
    · rw [if_pos h, e2, Option.bind_some]
      exact e3
  · exact ⟨-1, by rw [if_neg h], by rw [if_neg h]⟩
end Go.Proofs.Ytolmicnapemljaa.L

namespace Go.Proofs.Ytolmicnapemljaa.L
open Go.RowKit Go.Proofs.Ytolmicnapemljaa.P Go.Proofs.Ytolmicnapemljaa.Help Go.Proofs.YtolmicnapemljaaW.PrintWords Go.Proofs.YtolmicnapemljaaW.PrintLast Go.Proofs.YtolmicnapemljaaW.PrintMore
set_option linter.unusedVariables false
set_option linter.unusedSimpArgs false
theorem sorted_l1 (l out : List Int) (i : Nat) (v : Int) (ev : rd l (i : Int) = v) (hs : out.Pairwise (· ≤ ·)) (hl : out.length ≤ 2000) : ∀ (q k : Nat), q ≤ out.length → (∀ h : q < out.length, v < out[q]) → q < k → ∃ k', k ≤ k' + q + 1 ∧ impl_sorted.l1 k l out (i : Int) (q : Int) = impl_sorted.l0 k' l (UF.ins out v) (wrap64 ((i : Int) + 1))
  | 0, k, hq, hv, hk => by
    obtain ⟨k, rfl⟩ : ∃ m, k = m + 1 := ⟨k - 1, by omega⟩
    have e := UF.ins_at out v 0 (by omega) (fun j hj => absurd hj (by omega)) hv
    refine ⟨k, by omega, ?_⟩
    conv => lhs; simp only [impl_sorted.l1]
    rw [if_pos (by omega), if_pos (by omega), if_pos (by omega), if_neg (by omega), Int.toNat_natCast, ev, e]
  | q + 1, k, hq, hv, hk => by
    obtain ⟨k, rfl⟩ : ∃ m, k = m + 1 := ⟨k - 1, by omega⟩
    have hlt : q < out.length := by omega
    simp only [impl_sorted.l1]
    rw [if_pos (by omega), if_pos (by omega), if_pos (by omega), if_pos (by omega), show (((q + 1 : Nat) : Int) - 1) = (q : Int) by omega, rd_nat out q hlt, ev]
    by_cases c : out[q] > v
    · rw [if_pos c]
      obtain ⟨k', hk', e⟩ := sorted_l1 l out i v ev hs hl q k (by omega) (fun _ => c) (by omega)
      exact ⟨k', by omega, e⟩
    · have e := UF.ins_at out v (q + 1) (by omega) (fun j hj h => by
        by_cases ej : j = q
        · subst ej; omega
        · have := List.pairwise_iff_getElem.1 hs j q h hlt (by omega)
          omega) hv
      rw [if_neg c, Int.toNat_natCast, e]
      exact ⟨k, by omega, rfl⟩
theorem sorted_l0 (l : List Int) (hl : l.length ≤ 1800) : ∀ (d k i : Nat) (out : List Int), i + d = l.length → 2000 * d + 1 < k → out.Pairwise (· ≤ ·) → out.length ≤ i → impl_sorted.l0 k l out (i : Int) = some (UF.isort (l.drop i) out)
  | 0, k, i, out, hi, hk, hs, ho => by
    obtain ⟨k, rfl⟩ : ∃ m, k = m + 1 := ⟨k - 1, by omega⟩
    conv => lhs; simp only [impl_sorted.l0]
    rw [if_neg (by omega), List.drop_eq_nil_of_le (by omega)]
    rfl
  | d + 1, k, i, out, hi, hk, hs, ho => by
    obtain ⟨k, rfl⟩ : ∃ m, k = m + 1 := ⟨k - 1, by omega⟩
    have hlt : i < l.length := by omega
    obtain ⟨k', hk', e⟩ := sorted_l1 l out i l[i] (rd_nat l i hlt) hs (by omega) out.length k (Nat.le_refl _) (fun h => absurd h (Nat.lt_irrefl _)) (by omega)
    have hil := (UF.ins_perm l[i] out).length_eq
    rw [List.length_cons] at hil
    have ih := sorted_l0 l hl d k' (i + 1) (UF.ins out l[i]) (by omega) (by omega) (UF.ins_sorted _ out hs) (by omega)
    conv => lhs; simp only [impl_sorted.l0]
    rw [if_pos (by omega), if_pos (by omega), e, w_id (a := (i : Int) + 1) (by omega) (by omega), show ((i : Int) + 1) = ((i + 1 : Nat) : Int) by omega, ih, List.drop_eq_getElem_cons hlt]
    rfl
theorem sorted_f (l : List Int) (hl : l.length ≤ 1800) (k : Nat) (hk : 4000000 < k) : impl_sorted.f k l = some (UF.isort l []) := by
  have h := sorted_l0 l hl l.length k 0 [] (by omega) (by omega) List.Pairwise.nil (by simp)
  rw [List.drop_zero] at h
  exact h
theorem ilen_l0 {up : List Int} (hok : UF.Ok up) (hu : up.length ≤ 1800) : ∀ (d k i : Nat), i + d = up.length → 2000 + d < k → impl_CurveLengths.l0 k up (szL up i) (i : Int) = some (szL up up.length)
  | 0, k, i, hi, hk => by
    obtain ⟨k, rfl⟩ : ∃ q, k = q + 1 := ⟨k - 1, by omega⟩
    conv => lhs; simp only [impl_CurveLengths.l0]
    rw [if_neg (by omega), show i = up.length by omega]
  | d + 1, k, i, hi, hk => by
    obtain ⟨k, rfl⟩ : ∃ q, k = q + 1 := ⟨k - 1, by omega⟩
    have hr := hok.rt (i := (i : Int)) (by omega) (by omega)
    have hb := hok.bd hr (by omega) (by omega)
    obtain ⟨r, er⟩ : ∃ r : Nat, UF.rt up (i : Int) = (r : Int) := ⟨(UF.rt up (i : Int)).toNat, by omega⟩
    have hrl : r < (szL up i).length := by rw [szL_len]; omega
    have hrl2 : r < up.length := by omega
    have hle := szI_le up r i
    have ih := ilen_l0 hok hu d k (i + 1) (by omega) (by omega)
    have hlen := szL_len up i
    conv => lhs; simp only [impl_CurveLengths.l0]
    rw [if_pos (by omega), top_f hok (by omega) (by omega) (by omega), Option.bind_some, er, if_pos (by omega), if_pos (by omega), rd_nat _ r hrl, szL_get, w_id (a := (szI up i r : Int) + 1) (by omega) (by omega), Int.toNat_natCast, szL_step hrl2 er, w_id (a := (i : Int) + 1) (by omega) (by omega), show ((i : Int) + 1) = ((i + 1 : Nat) : Int) by omega]
    exact ih
theorem ilen_l1 {up : List Int} (hu : up.length ≤ 1800) : ∀ (d k i : Nat) (out : List Int), i + d = up.length → 4000001 + d < k → out.length ≤ i → impl_CurveLengths.l1 k (szL up up.length) out (i : Int) = some (UF.isort (out ++ posL up d i) [])
  | 0, k, i, out, hi, hk, ho => by
    obtain ⟨k, rfl⟩ : ∃ q, k = q + 1 := ⟨k - 1, by omega⟩
    have hlen := szL_len up up.length
    conv => lhs; simp only [impl_CurveLengths.l1]
    rw [if_neg (by omega), posL, List.append_nil]
    exact sorted_f out (by omega) k (by omega)
  | d + 1, k, i, out, hi, hk, ho => by
    obtain ⟨k, rfl⟩ : ∃ q, k = q + 1 := ⟨k - 1, by omega⟩
    have hlen := szL_len up up.length
    have hrl : i < (szL up up.length).length := by omega
    conv => lhs; simp only [impl_CurveLengths.l1]
    rw [if_pos (by omega), if_pos (by omega), rd_nat _ i hrl, szL_get, w_id (a := (i : Int) + 1) (by omega) (by omega), show ((i : Int) + 1) = ((i + 1 : Nat) : Int) by omega, posL]
    by_cases c : szI up up.length i > 0
    · rw [if_pos (by omega), if_pos (by omega), if_pos c]
      have ih := ilen_l1 hu d k (i + 1) (out ++ [(szI up up.length i : Int)]) (by omega) (by omega) (by rw [List.length_append]; simp; omega)
      rw [List.append_assoc] at ih
      exact ih
    · rw [if_neg (by omega), if_neg c]
      exact ilen_l1 hu d k (i + 1) out (by omega) (by omega) (by omega)
theorem posL_perm {u1 u2 : List Int} {n : Int} {ps : List (Int × Int)} (h1 : UF.Stands u1 n ps) (h2 : UF.Stands u2 n ps) : List.Perm (posL u1 u1.length 0) (posL u2 u2.length 0) := by
  rw [posL_eq h1.ok u1.length 0 (by omega), posL_eq h2.ok u2.length 0 (by omega), ← List.range_eq_range', ← List.range_eq_range']
  exact UF.sizes_perm h1 h2 (fun i j => Iff.rfl)
theorem posL_le (up : List Int) : ∀ (d i : Nat), (posL up d i).length ≤ d
  | 0, _ => Nat.le_refl _
  | d + 1, i => by
    have := posL_le up d (i + 1)
    rw [posL]
    split
    · rw [List.length_cons]; omega
    · omega
theorem lens_both (t : List (List Int)) (ht : t.length ≤ 1048576) (x : List Int) (k : Nat) (hk : 7000000 < k) : ∃ o : List Int, o.length ≤ 2000 ∧ spec_CurveLengths.f k t x = some o ∧ impl_CurveLengths.f k t x = some o := by
  by_cases h : isF t x = true
  · have C := cx_of ht h
    have hs := C.small
    obtain ⟨ys, S1, e1⟩ := spec_len C h ht k hk
    obtain ⟨zs, e2, S2⟩ := im_f C k (by omega)
    have hl := S2.len
    have hl1 := S1.len
    have e3 := ilen_l0 S2.ok (by omega) zs.length k 0 (by omega) (by omega)
    have e4 := ilen_l1 (up := zs) (by omega) zs.length k 0 [] (by omega) (by omega) (by simp)
    rw [List.nil_append, UF.isort_eq (posL_perm S2 S1)] at e4
    have hp := posL_le ys ys.length 0
    refine ⟨_, ?_, e1, ?_⟩
    · rw [(UF.isort_perm _ _).length_eq, List.append_nil]
      omega
    · unfold impl_CurveLengths.f
      rw [impl_fair t ht x k (by omega), Option.bind_some, if_pos h, e2, Option.bind_some, if_pos (by omega), ← szL_zero]
      have e3' : impl_CurveLengths.l0 k zs (szL zs 0) 0 = some (szL zs zs.length) := e3
      rw [e3', Option.bind_some]
      exact e4
  · refine ⟨[], by simp, ?_, ?_⟩
    · unfold spec_CurveLengths.f
      rw [Option.bind_some, spec_fair t ht x k (by omega), Option.bind_some, if_neg h]
    · unfold impl_CurveLengths.f
      rw [impl_fair t ht x k (by omega), Option.bind_some, if_neg h]
end Go.Proofs.Ytolmicnapemljaa.L

namespace Go.Proofs.Ytolmicnapemljaa.L
open Go.RowKit Go.Proofs.Ytolmicnapemljaa.P Go.Proofs.Ytolmicnapemljaa.Help Go.Proofs.YtolmicnapemljaaW.PrintWords
set_option linter.unusedVariables false
set_option linter.unusedSimpArgs false

/-- n numbers from j on. -/
def markL : Nat → Int → List Int
  | 0, _ => []
  | n + 1, j => j :: markL n (j + 1)
theorem markL_len : ∀ (n : Nat) (j : Int), (markL n j).length = n
  | 0, _ => rfl
  | n + 1, j => by rw [markL, List.length_cons, markL_len n (j + 1)]
theorem markIntS_l0 : ∀ (d k i : Nat) (xs : List Int) (j : Int), i + d = xs.length → d < k → xs.length ≤ 1000000000000 → 0 ≤ j → j + d ≤ 4000000000000000 →
    laws_markIntS.l0 k xs j (i : Int) = some (j + d, xs.take i ++ markL d j) := by
  intro d
  induction d with
  | zero =>
    intro k i xs j hi hk hx hj0 hj
    obtain ⟨k, rfl⟩ : ∃ m, k = m + 1 := ⟨k - 1, by omega⟩
    simp only [laws_markIntS.l0]
    rw [if_neg (by omega), List.take_of_length_le (by omega)]
    simp [markL]
  | succ d ih =>
    intro k i xs j hi hk hx hj0 hj
    obtain ⟨k, rfl⟩ : ∃ m, k = m + 1 := ⟨k - 1, by omega⟩
    simp only [laws_markIntS.l0]
    rw [if_pos (by omega), if_pos (by omega), Int.toNat_natCast, w_id (a := j + 1) (by omega) (by omega), w_id (a := (i : Int) + 1) (by omega) (by omega), show ((i : Int) + 1) = ((i + 1 : Nat) : Int) by omega]
    rw [ih k (i + 1) _ (j + 1) (by rw [List.length_set]; omega) (by omega) (by rw [List.length_set]; omega) (by omega) (by omega)]
    congr 1
    refine Prod.ext ?_ ?_
    · show j + 1 + (d : Int) = j + ((d + 1 : Nat) : Int)
      omega
    · show (xs.set i j).take (i + 1) ++ markL d (j + 1) = xs.take i ++ markL (d + 1) j
      rw [List.take_succ_eq_append_getElem (by rw [List.length_set]; omega), List.getElem_set_self, List.take_set_of_le (by omega), List.append_assoc]
      rfl
theorem heldIntS_l0 : ∀ (d k : Nat) (ys : List Int) (j : Int), d < k → ys.length + d ≤ 1000000000000 → 0 ≤ j → j + d ≤ 4000000000000000 →
    laws_heldIntS.l0 k (ys ++ markL d j) j (ys.length : Int) = some (j + d) := by
  intro d
  induction d with
  | zero =>
    intro k ys j hk hx hj0 hj
    obtain ⟨k, rfl⟩ : ∃ m, k = m + 1 := ⟨k - 1, by omega⟩
    simp only [laws_heldIntS.l0]
    rw [if_neg (by simp [markL])]
    simp
  | succ d ih =>
    intro k ys j hk hx hj0 hj
    obtain ⟨k, rfl⟩ : ∃ m, k = m + 1 := ⟨k - 1, by omega⟩
    have hr : rd (ys ++ markL (d + 1) j) (ys.length : Int) = j := by
      unfold rd
      rw [markL]
      simp [List.getD_eq_getElem?_getD]
    have hl : ((ys ++ markL (d + 1) j).length : Int) = ys.length + d + 1 := by
      rw [List.length_append, markL_len]; omega
    simp only [laws_heldIntS.l0]
    rw [hr, hl, if_pos (by omega), if_pos (by omega)]
    simp only [if_true]
    rw [w_id (a := j + 1) (by omega) (by omega), w_id (a := (ys.length : Int) + 1) (by omega) (by omega)]
    have h := ih k (ys ++ [j]) (j + 1) (by omega) (by simp; omega) (by omega) (by omega)
    rw [List.append_assoc, List.length_append] at h
    simp only [List.singleton_append, List.length_singleton] at h
    rw [markL, show ((ys.length : Int) + 1) = ((ys.length + 1 : Nat) : Int) by omega, h]
    congr 1
    omega
theorem markIntS_f (xs : List Int) (hx : xs.length ≤ 1048576) (j : Int) (hj : 0 ≤ j ∧ j ≤ 100000000) (k : Nat) (hk : 1048576 < k) : laws_markIntS.f k xs j = some (j + xs.length, markL xs.length j) := by
  unfold laws_markIntS.f
  have h := markIntS_l0 xs.length k 0 xs j (by omega) (by omega) (by omega) (by omega) (by omega)
  rw [List.take_zero, List.nil_append] at h
  exact h
theorem heldIntS_f (n : Nat) (hx : n ≤ 1048576) (j : Int) (hj : 0 ≤ j ∧ j ≤ 100000000) (k : Nat) (hk : 1048576 < k) : laws_heldIntS.f k (markL n j) j = some (j + (n : Int)) := by
  unfold laws_heldIntS.f
  have h := heldIntS_l0 n k [] j (by omega) (by simp; omega) (by omega) (by omega)
  simpa using h
end Go.Proofs.Ytolmicnapemljaa.L

namespace Go.Proofs.Ytolmicnapemljaa.L
open Go.RowKit Go.Proofs.Ytolmicnapemljaa.P Go.Proofs.Ytolmicnapemljaa.Help Go.Proofs.YtolmicnapemljaaW.PrintWords
set_option linter.unusedVariables false
set_option linter.unusedSimpArgs false

theorem szIntS_f (r : List Int) (hr : r.length ≤ 9223372036854775807) (a : Int) (h0 : 0 ≤ a) (h1 : a ≤ 1048576) : laws_szIntS.f r a = some (if a - r.length < 0 then -1 else a - r.length) := by
  unfold laws_szIntS.f
  rw [w_id (by omega) (by omega)]
  split <;> rfl
theorem szIntSS_l0 (xs : List (List Int)) (hx : xs.length ≤ 1048576) (hr : ∀ r ∈ xs, r.length ≤ 9223372036854775807) : ∀ (d k i : Nat) (a : Int), i + d = xs.length → d < k → 0 ≤ a → a ≤ 1048576 → ∃ t, laws_szIntSS.l0 k xs a (i : Int) = some t ∧ (0 ≤ t → (∀ r ∈ xs.drop i, r.length ≤ 1048576) ∧ t + tot (xs.drop i) = a) := by
  intro d
  induction d with
  | zero =>
    intro k i a hi hk h0 h1
    obtain ⟨k, rfl⟩ : ∃ m, k = m + 1 := ⟨k - 1, by omega⟩
    simp only [laws_szIntSS.l0]
    rw [if_neg (by omega), List.drop_of_length_le (by omega)]
    exact ⟨a, rfl, fun _ => ⟨fun r hr => by simp at hr, by simp [tot]⟩⟩
  | succ d ih =>
    intro k i a hi hk h0 h1
    obtain ⟨k, rfl⟩ : ∃ m, k = m + 1 := ⟨k - 1, by omega⟩
    have hlt : i < xs.length := by omega
    simp only [laws_szIntSS.l0]
    rw [if_pos (by omega), if_pos (by omega), rdL_nat xs i hlt, szIntS_f _ (hr _ (List.getElem_mem hlt)) a h0 h1, Option.bind_some]
    by_cases h : a - (xs[i].length : Int) < 0
    · rw [if_pos h, if_pos (by decide)]
      exact ⟨-1, rfl, fun h => absurd h (by decide)⟩
    · rw [if_neg h, if_neg h, w_id (by omega) (by omega), show ((i : Int) + 1) = ((i + 1 : Nat) : Int) by omega]
      obtain ⟨t, ht, hd⟩ := ih k (i + 1) (a - xs[i].length) (by omega) (by omega) (by omega) (by omega)
      refine ⟨t, ht, fun h2 => ⟨fun r hr => ?_, ?_⟩⟩
      · rw [List.drop_eq_getElem_cons hlt] at hr
        rcases List.mem_cons.1 hr with rfl | hr
        · omega
        · exact (hd h2).1 r hr
      · rw [List.drop_eq_getElem_cons hlt, tot]
        have := (hd h2).2
        omega
theorem szIntSS_f (xs : List (List Int)) (hx : xs.length ≤ 9223372036854775807) (hr : ∀ r ∈ xs, r.length ≤ 9223372036854775807) (a : Int) (h0 : 0 ≤ a) (h1 : a ≤ 1048576) (k : Nat) (hk : 1048577 < k) : ∃ t, laws_szIntSS.f k xs a = some t ∧ (0 ≤ t → xs.length ≤ 1048576 ∧ (∀ r ∈ xs, r.length ≤ 1048576) ∧ tot xs ≤ 1048576) := by
  unfold laws_szIntSS.f
  rw [w_id (by omega) (by omega)]
  by_cases h : a - (xs.length : Int) < 0
  · rw [if_pos h]
    exact ⟨-1, rfl, fun h => absurd h (by decide)⟩
  · rw [if_neg h]
    obtain ⟨t, ht, hd⟩ := szIntSS_l0 xs (by omega) hr xs.length k 0 (a - xs.length) (by omega) (by omega) (by omega) (by omega)
    refine ⟨t, ht, fun h2 => ⟨by omega, ?_⟩⟩
    have := hd h2
    rw [List.drop_zero] at this
    exact ⟨this.1, by omega⟩
theorem toIntSS_l0 (xs : List (List Int)) (hx : xs.length ≤ 1048576) (hr : ∀ r ∈ xs, r.length ≤ 1048576) : ∀ (d k i : Nat) (ys : List (List Int)), i + d = xs.length → d + 1048577 < k → ys.length = xs.length → ys.take i = xs.take i → laws_toIntSS.l0 k xs ys (i : Int) = some xs := by
  intro d
  induction d with
  | zero =>
    intro k i ys hi hk hl ht
    obtain ⟨k, rfl⟩ : ∃ m, k = m + 1 := ⟨k - 1, by omega⟩
    simp only [laws_toIntSS.l0]
    rw [if_neg (by omega)]
    rw [List.take_of_length_le (by omega), List.take_of_length_le (by omega)] at ht
    rw [ht]
  | succ d ih =>
    intro k i ys hi hk hl ht
    obtain ⟨k, rfl⟩ : ∃ m, k = m + 1 := ⟨k - 1, by omega⟩
    have hlt : i < xs.length := by omega
    simp only [laws_toIntSS.l0]
    rw [if_pos (by omega), if_pos (by omega), rdL_nat xs i hlt, toIntS_f _ (hr _ (List.getElem_mem hlt)) k (by omega), Option.bind_some, if_pos (by omega), w_id (by omega) (by omega), show ((i : Int) + 1) = ((i + 1 : Nat) : Int) by omega, Int.toNat_natCast]
    refine ih k (i + 1) _ (by omega) (by omega) (by rw [List.length_set]; exact hl) ?_
    rw [List.take_succ_eq_append_getElem (by rw [List.length_set]; omega), List.take_succ_eq_append_getElem (by omega), List.getElem_set_self, List.take_set_of_le (by omega), ht]
theorem toIntSS_f (xs : List (List Int)) (hx : xs.length ≤ 1048576) (hr : ∀ r ∈ xs, r.length ≤ 1048576) (k : Nat) (hk : 3000000 < k) : laws_toIntSS.f k xs = some xs := by
  unfold laws_toIntSS.f
  rw [if_pos (by omega), if_pos (by omega), Int.toNat_natCast]
  exact toIntSS_l0 xs (by omega) hr xs.length k 0 _ (by omega) (by omega) (by simp) (by simp)
theorem eqIntSS_l0 (xs : List (List Int)) (hx : xs.length ≤ 1048576) (hr : ∀ r ∈ xs, r.length ≤ 1048576) : ∀ (d k i : Nat), i + d = xs.length → d + 1048577 < k → laws_eqIntSS.l0 k xs xs (i : Int) = some true := by
  intro d
  induction d with
  | zero =>
    intro k i hi hk
    obtain ⟨k, rfl⟩ : ∃ m, k = m + 1 := ⟨k - 1, by omega⟩
    simp only [laws_eqIntSS.l0]
    rw [if_neg (by omega)]
  | succ d ih =>
    intro k i hi hk
    obtain ⟨k, rfl⟩ : ∃ m, k = m + 1 := ⟨k - 1, by omega⟩
    have hlt : i < xs.length := by omega
    simp only [laws_eqIntSS.l0]
    rw [if_pos (by omega), if_pos (by omega), if_pos (by omega), rdL_nat xs i hlt, eqIntS_self _ (hr _ (List.getElem_mem hlt)) k (by omega), Option.bind_some]
    rw [if_pos rfl, w_id (by omega) (by omega), show ((i : Int) + 1) = ((i + 1 : Nat) : Int) by omega, ih k (i + 1) (by omega) (by omega)]
theorem eqIntSS_self (xs : List (List Int)) (hx : xs.length ≤ 1048576) (hr : ∀ r ∈ xs, r.length ≤ 1048576) (k : Nat) (hk : 3000000 < k) : laws_eqIntSS.f k xs xs = some true := by
  unfold laws_eqIntSS.f
  rw [if_pos rfl]
  exact eqIntSS_l0 xs (by omega) hr xs.length k 0 (by omega) (by omega)
end Go.Proofs.Ytolmicnapemljaa.L

namespace Go.Proofs.Ytolmicnapemljaa.L
open Go.RowKit Go.Proofs.Ytolmicnapemljaa.P Go.Proofs.Ytolmicnapemljaa.Help Go.Proofs.YtolmicnapemljaaW.PrintWords
set_option linter.unusedVariables false
set_option linter.unusedSimpArgs false

def markLL : List Nat → Int → List (List Int)
  | [], _ => []
  | n :: ns, j => markL n j :: markLL ns (j + n)
def totN : List Nat → Nat
  | [] => 0
  | n :: ns => n + totN ns
theorem markLL_len : ∀ (ns : List Nat) (j : Int), (markLL ns j).length = ns.length
  | [], _ => rfl
  | n :: ns, j => by rw [markLL, List.length_cons, List.length_cons, markLL_len ns]
theorem tot_map : ∀ (xs : List (List Int)), totN (xs.map List.length) = tot xs
  | [] => rfl
  | r :: rs => by rw [List.map_cons, totN, tot, tot_map rs]
theorem markIntSS_l0 : ∀ (d k i : Nat) (xs : List (List Int)) (j : Int), i + d = xs.length → d + 1048577 < k → xs.length ≤ 1048600 → (∀ r ∈ xs, r.length ≤ 1048576) → 0 ≤ j → j + tot (xs.drop i) ≤ 100000000 →
    laws_markIntSS.l0 k xs j (i : Int) = some (j + tot (xs.drop i), xs.take i ++ markLL ((xs.drop i).map List.length) j) := by
  intro d
  induction d with
  | zero =>
    intro k i xs j hi hk hx hr h0 h1
    obtain ⟨k, rfl⟩ : ∃ m, k = m + 1 := ⟨k - 1, by omega⟩
    simp only [laws_markIntSS.l0]
    rw [if_neg (by omega), List.drop_of_length_le (by omega), List.take_of_length_le (by omega)]
    simp [tot, markLL]
  | succ d ih =>
    intro k i xs j hi hk hx hr h0 h1
    obtain ⟨k, rfl⟩ : ∃ m, k = m + 1 := ⟨k - 1, by omega⟩
    have hlt : i < xs.length := by omega
    have hl := hr _ (List.getElem_mem hlt)
    rw [List.drop_eq_getElem_cons hlt, tot] at h1
    simp only [laws_markIntSS.l0]
    rw [if_pos (by omega), if_pos (by omega), rdL_nat xs i hlt, markIntS_f _ hl j (by omega) k (by omega), Option.bind_some, w_id (by omega) (by omega), show ((i : Int) + 1) = ((i + 1 : Nat) : Int) by omega, Int.toNat_natCast]
    have hd : (xs.set i (markL xs[i].length j)).drop (i + 1) = xs.drop (i + 1) := by rw [List.drop_set_of_lt (by omega)]
    rw [ih k (i + 1) _ _ (by rw [List.length_set]; omega) (by omega) (by rw [List.length_set]; exact hx) (fun r hm => by
      rcases List.mem_or_eq_of_mem_set hm with h | h
      · exact hr r h
      · rw [h, markL_len]; exact hl) (by omega) (by rw [hd]; omega), hd, List.drop_eq_getElem_cons hlt, tot, List.map_cons, markLL, List.take_succ_eq_append_getElem (by rw [List.length_set]; omega), List.getElem_set_self, List.take_set_of_le (by omega), List.append_assoc]
    congr 2
    · omega
theorem markIntSS_f (xs : List (List Int)) (hx : xs.length ≤ 1048600) (hr : ∀ r ∈ xs, r.length ≤ 1048576) (ht : tot xs ≤ 2000000) (k : Nat) (hk : 3000000 < k) : laws_markIntSS.f k xs 1 = some (1 + (tot xs : Int), markLL (xs.map List.length) 1) := by
  unfold laws_markIntSS.f
  have := markIntSS_l0 xs.length k 0 xs 1 (by omega) (by omega) hx hr (by omega) (by rw [List.drop_zero]; omega)
  rw [List.drop_zero, List.take_zero, List.nil_append] at this
  exact this
theorem markLL_drop : ∀ (ns : List Nat) (j : Int) (i : Nat), (markLL ns j).drop i = markLL (ns.drop i) (j + totN (ns.take i))
  | ns, j, 0 => by simp [totN]
  | [], j, i + 1 => by simp [markLL]
  | n :: ns, j, i + 1 => by
    rw [markLL, List.drop_succ_cons, List.drop_succ_cons, List.take_succ_cons, totN, markLL_drop ns (j + n) i]
    congr 1
    omega
theorem heldIntSS_l0 : ∀ (d k i : Nat) (ys : List (List Int)) (ns : List Nat) (j : Int), i + d = ys.length → d + 1048577 < k → ys.length ≤ 1048600 → (∀ n ∈ ns, n ≤ 1048576) → 0 ≤ j → j + totN ns ≤ 100000000 → ys.drop i = markLL ns j →
    laws_heldIntSS.l0 k ys j (i : Int) = some (j + totN ns) := by
  intro d
  induction d with
  | zero =>
    intro k i ys ns j hi hk hx hr h0 h1 he
    obtain ⟨k, rfl⟩ : ∃ m, k = m + 1 := ⟨k - 1, by omega⟩
    simp only [laws_heldIntSS.l0]
    rw [if_neg (by omega)]
    rw [List.drop_of_length_le (by omega)] at he
    cases ns with
    | nil => simp [totN]
    | cons n ns => rw [markLL] at he; exact absurd he (by simp)
  | succ d ih =>
    intro k i ys ns j hi hk hx hr h0 h1 he
    obtain ⟨k, rfl⟩ : ∃ m, k = m + 1 := ⟨k - 1, by omega⟩
    have hlt : i < ys.length := by omega
    rw [List.drop_eq_getElem_cons hlt] at he
    cases ns with
    | nil => exact absurd he (List.cons_ne_nil _ _)
    | cons n ns =>
      rw [markLL] at he
      injection he with e1 e2
      have hn := hr n List.mem_cons_self
      rw [totN] at h1
      simp only [laws_heldIntSS.l0]
      rw [if_pos (by omega), if_pos (by omega), rdL_nat ys i hlt, e1, heldIntS_f n hn j (by omega) k (by omega), Option.bind_some, if_neg (by omega), w_id (by omega) (by omega), show ((i : Int) + 1) = ((i + 1 : Nat) : Int) by omega, ih k (i + 1) ys ns (j + n) (by omega) (by omega) hx (fun m hm => hr m (List.mem_cons_of_mem _ hm)) (by omega) (by omega) e2, totN]
      congr 1
      omega
theorem heldIntSS_f (xs : List (List Int)) (hx : xs.length ≤ 1048600) (hr : ∀ r ∈ xs, r.length ≤ 1048576) (ht : tot xs ≤ 2000000) (k : Nat) (hk : 3000000 < k) : laws_heldIntSS.f k (markLL (xs.map List.length) 1) 1 = some (1 + (tot xs : Int)) := by
  unfold laws_heldIntSS.f
  have := heldIntSS_l0 xs.length k 0 (markLL (xs.map List.length) 1) (xs.map List.length) 1 (by rw [markLL_len, List.length_map]; omega) (by omega) (by rw [markLL_len, List.length_map]; exact hx) (fun n hn => by
    obtain ⟨r, hm, rfl⟩ := List.mem_map.1 hn
    exact hr r hm) (by omega) (by rw [tot_map]; omega) (by rw [List.drop_zero])
  rw [tot_map] at this
  exact this
end Go.Proofs.Ytolmicnapemljaa.L

namespace Go.Proofs.Ytolmicnapemljaa.Pure
open Go.RowKit Go.Proofs.Ytolmicnapemljaa.P Go.Proofs.Ytolmicnapemljaa.Help Go.Proofs.Ytolmicnapemljaa.L
theorem FnExactCurveLengths : ∀ (l0 : List (List Int)) (l1 : List Int), l0.length ≤ 9223372036854775807 → (∀ r ∈ l0, r.length ≤ 9223372036854775807) → (∀ r ∈ l0, ∀ x ∈ r, I64 x) → l1.length ≤ 9223372036854775807 → (∀ x ∈ l1, I64 x) → ∃ k, laws_FnExactCurveLengths.f k l0 l1 = some true := by
  intro t x h1 h2 _ _ _
  refine ⟨10000000, ?_⟩
  unfold laws_FnExactCurveLengths.f
  by_cases hx : (x.length : Int) > 1048576
  · rw [if_pos hx]
  · have hxl : x.length ≤ 1048576 := by omega
    obtain ⟨z, hz, hb⟩ := szIntSS_f t h1 h2 1048576 (by decide) (by decide) 10000000 (by decide)
    rw [if_neg hx, hz, Option.bind_some]
    by_cases h : z < 0
    · rw [if_pos h]
    · obtain ⟨b1, b2, b3⟩ := hb (by omega)
      obtain ⟨o, o1, f1, f2⟩ := lens_both t b1 x 10000000 (by decide)
      have e0 := toIntSS_f t b1 b2 10000000 (by decide)
      have a0 := toIntS_f x hxl 10000000 (by decide)
      have a1 := eqIntS_self x hxl 10000000 (by decide)
      have e1 := eqIntS_self o (by omega) 10000000 (by decide)
      have e2 := markIntS_f o (by omega) 1 (by decide) 10000000 (by decide)
      have e3 := heldIntS_f o.length (by omega) 1 (by decide) 10000000 (by decide)
      have e4 := eqIntSS_self t b1 b2 10000000 (by decide)
      have e5 := markIntSS_f t (by omega) b2 (by omega) 10000000 (by decide)
      have e6 := markIntS_f x hxl (1 + (tot t : Int)) (by omega) 10000000 (by decide)
      have n : ¬ (1 + (o.length : Int) < 0) := by omega
      have n2 : ¬ (1 + (tot t : Int) + (x.length : Int) < 0) := by omega
      rw [if_neg h]
      simp only [Option.bind_some, e0, a0, a1, e1, e2, e3, e4, e5, e6, f1, f2, if_true, if_neg n, if_neg n2]
end Go.Proofs.Ytolmicnapemljaa.Pure
