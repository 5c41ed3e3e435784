/- The program's SameTriangles answers as the reference's, for all arguments; no condition. -/
import Derived.Test.YtahokioglinpgaaQPx0
import Derived.Test.YtahokioglinpgaaQHelp
import Derived.Test.YtahokioglinpgaaQPx1
import Derived.Test.YtahokioglinpgaaQPx3
import Derived.Test.YtahokioglinpgaaQPx5
import Derived.Test.YtahokioglinpgaaQPx2
import Derived.Test.YtahokioglinpgaaQPx4
import Derived.Test.YtahokioglinpgaaQPx6
import Derived.Test.YtahokioglinpgaaQPx7
import Derived.Test.YtahokioglinpgaaQPx8
import Derived.Test.YtahokioglinpgaaQPx9
import Derived.Test.YtahokioglinpgaaQPx11
import Derived.Test.YtahokioglinpgaaQPx12
import Derived.Test.YtahokioglinpgaaQWlFnExactSameTriangles

namespace Go.Proofs.Ytahokioglinpgaa.L
open Go.RowKit Go.Proofs.Ytahokioglinpgaa.P Go.Proofs.Ytahokioglinpgaa.Help Go.Proofs.YtahokioglinpgaaW.PrintWords
set_option linter.unusedVariables false
set_option linter.unusedSimpArgs false

theorem w_id {a : Int} (h0 : -9223372036854775808 ≤ a) (h1 : a ≤ 9223372036854775807) : wrap64 a = a := by unfold wrap64; omega
theorem mulb {a b A B : Int} (h1 : -A ≤ a) (h2 : a ≤ A) (h3 : -B ≤ b) (h4 : b ≤ B) : -(A * B) ≤ a * b ∧ a * b ≤ A * B := by
  have hA : 0 ≤ A := by omega
  have hB : 0 ≤ B := by omega
  have h : (a * b).natAbs ≤ (A * B).natAbs := by
    rw [Int.natAbs_mul, Int.natAbs_mul]
    exact Nat.mul_le_mul (by omega) (by omega)
  have hp : 0 ≤ A * B := Int.mul_nonneg hA hB
  omega
theorem rd_nat (xs : List Int) (i : Nat) (h : i < xs.length) : rd xs (i : Int) = xs[i] := by
  unfold rd
  simp [List.getD_eq_getElem?_getD, List.getElem?_eq_getElem h]
theorem bind_ite {α β : Type} {c : Prop} [Decidable c] (x y : Option α) (f : α → Option β) : (if c then x else y).bind f = if c then x.bind f else y.bind f := by split <;> rfl
theorem unit_of {a d : Int} (h : a * d = 1) : a = 1 ∨ a = -1 := by
  have h1 : a.natAbs * d.natAbs = 1 := by rw [← Int.natAbs_mul, h]; rfl
  have h2 : a.natAbs = 1 := Nat.eq_one_of_mul_eq_one_right h1
  omega
end Go.Proofs.Ytahokioglinpgaa.L

namespace Go.Proofs.Ytahokioglinpgaa.L
open Go.RowKit Go.Proofs.Ytahokioglinpgaa.P Go.Proofs.Ytahokioglinpgaa.Help Go.Proofs.YtahokioglinpgaaW.PrintWords
set_option linter.unusedVariables false
set_option linter.unusedSimpArgs false

theorem l1In_eq (a lo hi : Int) : spec_l1In.f a lo hi = some (decide (lo ≤ a ∧ a ≤ hi)) := by
  unfold spec_l1In.f
  by_cases h : lo ≤ a <;> simp [h]
theorem within_eq (a lo hi : Int) : impl_within.f a lo hi = some (decide (lo ≤ a ∧ a ≤ hi)) := by
  unfold impl_within.f
  by_cases h : lo ≤ a <;> simp [h]
end Go.Proofs.Ytahokioglinpgaa.L

namespace Go.Proofs.Ytahokioglinpgaa.L
open Go.RowKit Go.Proofs.Ytahokioglinpgaa.P Go.Proofs.Ytahokioglinpgaa.Help Go.Proofs.YtahokioglinpgaaW.PrintWords
set_option linter.unusedVariables false
set_option linter.unusedSimpArgs false

theorem toIntS_l0 (xs : List Int) (hx : xs.length ≤ 1000000000000) : ∀ (d k i : Nat) (ys : List Int), i + d = xs.length → d < k → ys.length = xs.length → ys.take i = xs.take i → laws_toIntS.l0 k xs ys (i : Int) = some xs := by
  intro d
  induction d with
  | zero =>
    intro k i ys hi hk hl ht
    obtain ⟨k, rfl⟩ : ∃ m, k = m + 1 := ⟨k - 1, by omega⟩
    simp only [laws_toIntS.l0]
    rw [if_neg (by omega)]
    rw [List.take_of_length_le (by omega), List.take_of_length_le (by omega)] at ht
    rw [ht]
  | succ d ih =>
    intro k i ys hi hk hl ht
    obtain ⟨k, rfl⟩ : ∃ m, k = m + 1 := ⟨k - 1, by omega⟩
    simp only [laws_toIntS.l0]
    rw [if_pos (by omega), if_pos (by omega), if_pos (by omega), w_id (by omega) (by omega), show ((i : Int) + 1) = ((i + 1 : Nat) : Int) by omega, Int.toNat_natCast, rd_nat xs i (by omega)]
    refine ih k (i + 1) _ (by omega) (by omega) (by rw [List.length_set]; exact hl) ?_
    rw [List.take_succ_eq_append_getElem (by rw [List.length_set]; omega), List.take_succ_eq_append_getElem (by omega), List.getElem_set_self, List.take_set_of_le (by omega), ht]
theorem toIntS_f (xs : List Int) (hx : xs.length ≤ 1048576) (k : Nat) (hk : 1048576 < k) : laws_toIntS.f k xs = some xs := by
  unfold laws_toIntS.f
  rw [if_pos (by omega), if_pos (by omega), Int.toNat_natCast]
  exact toIntS_l0 xs (by omega) xs.length k 0 _ (by omega) (by omega) (by simp) (by simp)
theorem eqIntS_l0 (xs : List Int) (hx : xs.length ≤ 1000000000000) : ∀ (d k i : Nat), i + d = xs.length → d < k → laws_eqIntS.l0 k xs xs (i : Int) = some true := by
  intro d
  induction d with
  | zero =>
    intro k i hi hk
    obtain ⟨k, rfl⟩ : ∃ m, k = m + 1 := ⟨k - 1, by omega⟩
    simp only [laws_eqIntS.l0]
    rw [if_neg (by omega)]
  | succ d ih =>
    intro k i hi hk
    obtain ⟨k, rfl⟩ : ∃ m, k = m + 1 := ⟨k - 1, by omega⟩
    simp only [laws_eqIntS.l0]
    rw [if_pos (by omega), if_pos (by omega), if_pos (by omega)]
    simp only [if_true]
    rw [w_id (by omega) (by omega), show ((i : Int) + 1) = ((i + 1 : Nat) : Int) by omega, ih k (i + 1) (by omega) (by omega)]
theorem eqIntS_self (xs : List Int) (hx : xs.length ≤ 1048576) (k : Nat) (hk : 1048576 < k) : laws_eqIntS.f k xs xs = some true := by
  unfold laws_eqIntS.f
  rw [if_pos rfl]
  exact eqIntS_l0 xs (by omega) xs.length k 0 (by omega) (by omega)
end Go.Proofs.Ytahokioglinpgaa.L

namespace Go.Proofs.Ytahokioglinpgaa.L
open Go.RowKit Go.Proofs.Ytahokioglinpgaa.P Go.Proofs.Ytahokioglinpgaa.Help Go.Proofs.YtahokioglinpgaaW.PrintWords
set_option linter.unusedVariables false
set_option linter.unusedSimpArgs false

/-- How many numbers. -/
def tot : List (List Int) → Nat
  | [] => 0
  | r :: rs => r.length + tot rs
theorem rdL_nat (xs : List (List Int)) (i : Nat) (h : i < xs.length) : rd_L1 xs (i : Int) = xs[i] := by
  unfold rd_L1
  simp [List.getD_eq_getElem?_getD, List.getElem?_eq_getElem h]
end Go.Proofs.Ytahokioglinpgaa.L

namespace Go.Proofs.Ytahokioglinpgaa.L
open Go.RowKit Go.Proofs.Ytahokioglinpgaa.P Go.Proofs.Ytahokioglinpgaa.Help Go.Proofs.YtahokioglinpgaaW.PrintWords
set_option linter.unusedVariables false
set_option linter.unusedSimpArgs false

/-- The letters of a row, put to those that are seen. -/
def rowR (n : Int) : List Int → List Int → Option (List Int)
  | seen, [] => some seen
  | seen, x :: xs => if x ≠ 0 ∧ (-n ≤ x ∧ x ≤ n) ∧ x ∉ seen then rowR n (x :: seen) xs else none
def triR (n : Int) : List Int → List (List Int) → Bool
  | _, [] => true
  | seen, r :: rs => if r.length = 3 then (match rowR n seen r with | some s => triR n s rs | none => false) else false
/-- The number of edges. -/
def edges (t : List (List Int)) : Int := wrap64 (Int.tdiv (wrap64 (3 * (t.length : Int))) 2)
def isT (t : List (List Int)) : Bool := if (t.length : Int) % 2 = 0 ∧ 3 ≤ edges t ∧ edges t ≤ 9 then triR (edges t) [] t else false

theorem impl_tri_l1 (t : List (List Int)) (n : Int) (hn : 3 ≤ n ∧ n ≤ 9) (i : Nat) (hi : i < t.length) (hl : t[i].length = 3) : ∀ (d j k : Nat) (seen : List Int), j + d = 3 → d < k →
    impl_IsTriangulation.l1 k t n seen (i : Int) (j : Int) = (match rowR n seen (t[i].drop j) with | some s => impl_IsTriangulation.l0 (k - d - 1) t n s (wrap64 ((i : Int) + 1)) | none => some false) := by
  intro d
  induction d with
  | zero =>
    intro j k seen hj hk
    obtain ⟨k, rfl⟩ : ∃ m, k = m + 1 := ⟨k - 1, by omega⟩
    simp only [impl_IsTriangulation.l1]
    rw [rdL_nat t i hi, if_neg (by omega), List.drop_of_length_le (by omega)]
    rfl
  | succ d ih =>
    intro j k seen hj hk
    obtain ⟨k, rfl⟩ : ∃ m, k = m + 1 := ⟨k - 1, by omega⟩
    have hlt : j < t[i].length := by omega
    simp only [impl_IsTriangulation.l1]
    rw [rdL_nat t i hi, if_pos (by omega), if_pos (by omega), rd_nat _ j hlt, within_eq, Option.bind_some, w_id (a := -n) (by omega) (by omega), List.drop_eq_getElem_cons hlt]
    by_cases h1 : t[i][j] = 0
    · rw [if_pos h1]
      simp [rowR, h1]
    · rw [if_neg h1]
      by_cases h2 : -n ≤ t[i][j] ∧ t[i][j] ≤ n
      · rw [if_pos (by simpa using h2)]
        by_cases h3 : t[i][j] ∈ seen
        · rw [if_pos h3]
          simp [rowR, h3]
        · rw [if_neg h3, w_id (a := (j : Int) + 1) (by omega) (by omega), show ((j : Int) + 1) = ((j + 1 : Nat) : Int) by omega, ih (j + 1) k _ (by omega) (by omega), rowR, if_pos ⟨h1, h2, h3⟩, show k + 1 - (d + 1) - 1 = k - d - 1 by omega]
      · rw [if_neg (by simpa using h2), rowR, if_neg (fun h => h2 h.2.1)]
theorem impl_tri_l0 (t : List (List Int)) (ht : t.length ≤ 1048600) (n : Int) (hn : 3 ≤ n ∧ n ≤ 9) : ∀ (d i k : Nat) (seen : List Int), i + d = t.length → 5 * d < k →
    impl_IsTriangulation.l0 k t n seen (i : Int) = some (triR n seen (t.drop i)) := by
  intro d
  induction d with
  | zero =>
    intro i k seen hi hk
    obtain ⟨k, rfl⟩ : ∃ m, k = m + 1 := ⟨k - 1, by omega⟩
    simp only [impl_IsTriangulation.l0]
    rw [if_neg (by omega), List.drop_of_length_le (by omega)]
    rfl
  | succ d ih =>
    intro i k seen hi hk
    obtain ⟨k, rfl⟩ : ∃ m, k = m + 1 := ⟨k - 1, by omega⟩
    have hlt : i < t.length := by omega
    simp only [impl_IsTriangulation.l0]
    rw [if_pos (by omega), if_pos (by omega), rdL_nat t i hlt, List.drop_eq_getElem_cons hlt, triR]
    by_cases h1 : t[i].length = 3
    · have := impl_tri_l1 t n hn i hlt h1 3 0 k seen (by omega) (by omega)
      rw [if_pos (by omega), if_pos h1, show (0 : Int) = ((0 : Nat) : Int) from rfl, this, List.drop_zero]
      cases rowR n seen t[i] with
      | none => rfl
      | some s =>
        show impl_IsTriangulation.l0 _ t n s _ = some (triR n s _)
        rw [w_id (by omega) (by omega), show ((i : Int) + 1) = ((i + 1 : Nat) : Int) by omega, ih (i + 1) _ s (by omega) (by omega)]
    · rw [if_neg (by omega), if_neg h1]
theorem impl_isT' (t : List (List Int)) (ht : t.length ≤ 1048600) (k : Nat) (hk : 6000000 < k) : impl_IsTriangulation.f k t = some (isT t) := by
  obtain ⟨k, rfl⟩ : ∃ m, k = m + 1 := ⟨k - 1, by omega⟩
  unfold impl_IsTriangulation.f
  rw [within_eq, Option.bind_some]
  unfold isT edges
  by_cases h1 : (t.length : Int) % 2 = 0
  · rw [if_pos h1]
    simp only [impl_IsTriangulation.j0]
    by_cases h2 : 3 ≤ wrap64 (Int.tdiv (wrap64 (3 * (t.length : Int))) 2) ∧ wrap64 (Int.tdiv (wrap64 (3 * (t.length : Int))) 2) ≤ 9
    · rw [if_neg (by simpa using h2), if_pos ⟨h1, h2⟩]
      have := impl_tri_l0 t ht _ h2 t.length 0 k [] (by omega) (by omega)
      rw [List.drop_zero] at this
      exact this
    · rw [if_pos (by rw [decide_eq_false h2]; rfl), if_neg (fun h => h2 h.2)]
  · rw [if_neg h1]
    simp only [impl_IsTriangulation.j0]
    rw [if_pos trivial, if_neg (fun h => h1 h.1)]
/-- What is marked is what is seen. -/
def Marks (n : Int) (x4 : List Bool) (seen : List Int) : Prop := (x4.length : Int) = 2 * n + 1 ∧ ∀ y, -n ≤ y → y ≤ n → rdOf false x4 (n + y) = decide (y ∈ seen)
theorem Marks.put {n : Int} {x4 : List Bool} {seen : List Int} (h : Marks n x4 seen) {x : Int} (hx : -n ≤ x ∧ x ≤ n) : Marks n (x4.set (n + x).toNat true) (x :: seen) := by
  obtain ⟨h1, h2⟩ := h
  refine ⟨by rw [List.length_set]; exact h1, fun y hy1 hy2 => ?_⟩
  have h3 := h2 y hy1 hy2
  unfold rdOf at h3 ⊢
  rw [List.getD_eq_getElem?_getD] at h3 ⊢
  rw [List.getElem?_set]
  by_cases e : (n + x).toNat = (n + y).toNat
  · have : x = y := by omega
    subst this
    rw [if_pos rfl, if_pos (by omega)]
    simp
  · have hne : y ≠ x := fun e' => e (by rw [e'])
    rw [if_neg e, h3]
    simp [hne]
theorem Marks.made {n : Int} (hn : 0 ≤ n) : Marks n (List.replicate (2 * n + 1).toNat false) [] := by
  refine ⟨by rw [List.length_replicate]; omega, fun y _ _ => ?_⟩
  unfold rdOf
  rw [List.getD_eq_getElem?_getD, List.getElem?_replicate]
  split <;> simp
theorem spec_tri_l1 (t : List (List Int)) (n : Int) (hn : 3 ≤ n ∧ n ≤ 9) (i : Nat) (hi : i < t.length) (hl : t[i].length = 3) : ∀ (d j k : Nat) (x4 : List Bool) (seen : List Int), Marks n x4 seen → j + d = 3 → d < k →
    (rowR n seen (t[i].drop j) = none ∧ spec_IsTriangulation.l1 k t n x4 (i : Int) (j : Int) = some false) ∨ ∃ s x4', rowR n seen (t[i].drop j) = some s ∧ Marks n x4' s ∧ spec_IsTriangulation.l1 k t n x4 (i : Int) (j : Int) = spec_IsTriangulation.l0 (k - d - 1) t n x4' (wrap64 ((i : Int) + 1)) := by
  intro d
  induction d with
  | zero =>
    intro j k x4 seen hm hj hk
    obtain ⟨k, rfl⟩ : ∃ m, k = m + 1 := ⟨k - 1, by omega⟩
    simp only [spec_IsTriangulation.l1]
    rw [if_neg (by omega), List.drop_of_length_le (by omega)]
    exact .inr ⟨seen, x4, rfl, hm, rfl⟩
  | succ d ih =>
    intro j k x4 seen hm hj hk
    obtain ⟨k, rfl⟩ : ∃ m, k = m + 1 := ⟨k - 1, by omega⟩
    have hlt : j < t[i].length := by omega
    simp only [spec_IsTriangulation.l1]
    rw [if_pos (by omega), if_pos (by omega), if_pos (by omega), if_pos (by omega), rdL_nat t i hi, if_pos (by omega), rd_nat _ j hlt, l1In_eq, Option.bind_some, w_id (a := -n) (by omega) (by omega), List.drop_eq_getElem_cons hlt]
    by_cases h1 : t[i][j] = 0
    · rw [if_pos h1]
      exact .inl ⟨by simp [rowR, h1], rfl⟩
    · rw [if_neg h1]
      by_cases h2 : -n ≤ t[i][j] ∧ t[i][j] ≤ n
      · have hx := hm.2 _ h2.1 h2.2
        have hlen := hm.1
        rw [if_pos (by simpa using h2), w_id (a := n + t[i][j]) (by omega) (by omega), if_pos (by omega), if_pos (by omega), hx]
        by_cases h3 : t[i][j] ∈ seen
        · rw [if_pos (by simpa using h3)]
          exact .inl ⟨by simp [rowR, h3], rfl⟩
        · rw [if_neg (by simpa using h3), w_id (a := (j : Int) + 1) (by omega) (by omega), show ((j : Int) + 1) = ((j + 1 : Nat) : Int) by omega, rowR, if_pos ⟨h1, h2, h3⟩, show k + 1 - (d + 1) - 1 = k - d - 1 by omega]
          exact ih (j + 1) k _ _ (hm.put h2) (by omega) (by omega)
      · rw [if_neg (by simpa using h2), rowR, if_neg (fun h => h2 h.2.1)]
        exact .inl ⟨rfl, rfl⟩
theorem spec_tri_l0 (t : List (List Int)) (ht : t.length ≤ 1048600) (n : Int) (hn : 3 ≤ n ∧ n ≤ 9) : ∀ (d i k : Nat) (x4 : List Bool) (seen : List Int), Marks n x4 seen → i + d = t.length → 5 * d < k →
    spec_IsTriangulation.l0 k t n x4 (i : Int) = some (triR n seen (t.drop i)) := by
  intro d
  induction d with
  | zero =>
    intro i k x4 seen hm hi hk
    obtain ⟨k, rfl⟩ : ∃ m, k = m + 1 := ⟨k - 1, by omega⟩
    simp only [spec_IsTriangulation.l0]
    rw [if_neg (by omega), List.drop_of_length_le (by omega)]
    rfl
  | succ d ih =>
    intro i k x4 seen hm hi hk
    obtain ⟨k, rfl⟩ : ∃ m, k = m + 1 := ⟨k - 1, by omega⟩
    have hlt : i < t.length := by omega
    simp only [spec_IsTriangulation.l0]
    rw [if_pos (by omega), if_pos (by omega), rdL_nat t i hlt, List.drop_eq_getElem_cons hlt, triR]
    by_cases h1 : t[i].length = 3
    · rw [if_pos (by omega), if_pos h1, show (0 : Int) = ((0 : Nat) : Int) from rfl]
      rcases spec_tri_l1 t n hn i hlt h1 3 0 k x4 seen hm (by omega) (by omega) with ⟨h2, h3⟩ | ⟨s, x4', h2, h3, h4⟩
      · rw [h3]
        rw [List.drop_zero] at h2
        rw [h2]
      · rw [h4]
        rw [List.drop_zero] at h2
        rw [h2, w_id (by omega) (by omega), show ((i : Int) + 1) = ((i + 1 : Nat) : Int) by omega]
        exact ih (i + 1) _ x4' s h3 (by omega) (by omega)
    · rw [if_neg (by omega), if_neg h1]
theorem spec_isT' (t : List (List Int)) (ht : t.length ≤ 1048600) (k : Nat) (hk : 6000000 < k) : spec_IsTriangulation.f k t = some (isT t) := by
  obtain ⟨k, rfl⟩ : ∃ m, k = m + 1 := ⟨k - 1, by omega⟩
  unfold spec_IsTriangulation.f
  rw [l1In_eq, Option.bind_some]
  unfold isT edges
  by_cases h1 : (t.length : Int) % 2 = 0
  · rw [if_pos h1]
    simp only [spec_IsTriangulation.j0]
    by_cases h2 : 3 ≤ wrap64 (Int.tdiv (wrap64 (3 * (t.length : Int))) 2) ∧ wrap64 (Int.tdiv (wrap64 (3 * (t.length : Int))) 2) ≤ 9
    · obtain ⟨n, hn⟩ : ∃ n : Int, wrap64 (Int.tdiv (wrap64 (3 * (t.length : Int))) 2) = n := ⟨_, rfl⟩
      rw [hn] at h2 ⊢
      rw [if_neg (by simpa using h2), if_pos (show (t.length : Int) % 2 = 0 ∧ 3 ≤ n ∧ n ≤ 9 from ⟨h1, h2⟩), w_id (a := 2 * n) (by omega) (by omega), w_id (a := 2 * n + 1) (by omega) (by omega), if_pos (by omega), if_pos (by omega)]
      have := spec_tri_l0 t ht n h2 t.length 0 k _ [] (Marks.made (by omega)) (by omega) (by omega)
      rw [List.drop_zero] at this
      exact this
    · rw [if_pos (by rw [decide_eq_false h2]; rfl), if_neg (fun h => h2 h.2)]
  · rw [if_neg h1]
    simp only [spec_IsTriangulation.j0]
    rw [if_pos trivial, if_neg (fun h => h1 h.1)]
theorem impl_isT (t : List (List Int)) (ht : t.length ≤ 1048576) (k : Nat) (hk : 6000000 < k) : impl_IsTriangulation.f k t = some (isT t) := impl_isT' t (by omega) k hk
theorem spec_isT (t : List (List Int)) (ht : t.length ≤ 1048576) (k : Nat) (hk : 6000000 < k) : spec_IsTriangulation.f k t = some (isT t) := spec_isT' t (by omega) k hk
end Go.Proofs.Ytahokioglinpgaa.L


namespace Go.Proofs.Ytahokioglinpgaa.L
open Go.RowKit Go.Proofs.Ytahokioglinpgaa.P Go.Proofs.Ytahokioglinpgaa.Help Go.Proofs.YtahokioglinpgaaW.PrintWords
set_option linter.unusedVariables false
set_option linter.unusedSimpArgs false

theorem rowR_some {n : Int} : ∀ {r seen s : List Int}, rowR n seen r = some s → (∀ x ∈ r, x ≠ 0 ∧ -n ≤ x ∧ x ≤ n) ∧ r.Nodup ∧ (∀ x ∈ r, x ∉ seen) ∧ ∀ x, x ∈ s ↔ x ∈ r ∨ x ∈ seen
  | [], seen, s, h => by
    have e : seen = s := Option.some.inj h
    subst e
    simp
  | y :: ys, seen, s, h => by
    rw [rowR] at h
    by_cases c : y ≠ 0 ∧ (-n ≤ y ∧ y ≤ n) ∧ y ∉ seen
    · rw [if_pos c] at h
      obtain ⟨h1, h2, h3, h4⟩ := rowR_some h
      refine ⟨fun x hx => ?_, List.nodup_cons.2 ⟨fun hy => h3 y hy List.mem_cons_self, h2⟩, fun x hx hs => ?_, fun x => ?_⟩
      · rcases List.mem_cons.1 hx with rfl | hx
        · exact ⟨c.1, c.2.1⟩
        · exact h1 x hx
      · rcases List.mem_cons.1 hx with rfl | hx
        · exact c.2.2 hs
        · exact h3 x hx (List.mem_cons_of_mem _ hs)
      · rw [h4 x, List.mem_cons, List.mem_cons]
        constructor
        · rintro (h | h | h)
          · exact .inl (.inr h)
          · exact .inl (.inl h)
          · exact .inr h
        · rintro ((h | h) | h)
          · exact .inr (.inl h)
          · exact .inl h
          · exact .inr (.inr h)
    · rw [if_neg c] at h
      exact absurd h (by simp)
theorem triR_true {n : Int} : ∀ {rows : List (List Int)} {seen : List Int}, triR n seen rows = true → (∀ r ∈ rows, r.length = 3) ∧ (∀ x ∈ rows.flatten, x ≠ 0 ∧ -n ≤ x ∧ x ≤ n) ∧ rows.flatten.Nodup ∧ ∀ x ∈ rows.flatten, x ∉ seen
  | [], seen, _ => by simp
  | r :: rs, seen, h => by
    rw [triR] at h
    by_cases c : r.length = 3
    · rw [if_pos c] at h
      cases hr : rowR n seen r with
      | none => rw [hr] at h; exact absurd h (by simp)
      | some s =>
        rw [hr] at h
        obtain ⟨h1, h2, h3, h4⟩ := rowR_some hr
        obtain ⟨g1, g2, g3, g4⟩ := triR_true (show triR n s rs = true from h)
        refine ⟨fun x hx => ?_, fun x hx => ?_, ?_, fun x hx hs => ?_⟩
        · rcases List.mem_cons.1 hx with rfl | hx
          · exact c
          · exact g1 x hx
        · rw [List.flatten_cons, List.mem_append] at hx
          rcases hx with hx | hx
          · exact h1 x hx
          · exact g2 x hx
        · rw [List.flatten_cons]
          refine List.nodup_append.2 ⟨h2, g3, fun a ha b hb e => ?_⟩
          subst e
          exact g4 a hb ((h4 a).2 (.inl ha))
        · rw [List.flatten_cons, List.mem_append] at hx
          rcases hx with hx | hx
          · exact h3 x hx hs
          · exact g4 x hx ((h4 x).2 (.inr hs))
    · rw [if_neg c] at h
      exact absurd h (by simp)
/-- A triangulation with n edges. -/
structure TriOk (t : List (List Int)) (n : Int) : Prop where
  n3 : 3 ≤ n
  n9 : n ≤ 9
  len : 3 * (t.length : Int) = 2 * n
  row : ∀ r ∈ t, r.length = 3
  inr : ∀ x ∈ t.flatten, x ≠ 0 ∧ -n ≤ x ∧ x ≤ n
  nodup : t.flatten.Nodup
theorem edges_eq {t : List (List Int)} (ht : t.length ≤ 1048600) : edges t = 3 * (t.length : Int) / 2 := by
  unfold edges
  rw [w_id (a := 3 * (t.length : Int)) (by omega) (by omega), Int.tdiv_eq_ediv_of_nonneg (by omega), w_id (by omega) (by omega)]
theorem isT_ok' {t : List (List Int)} (ht : t.length ≤ 1048600) (h : isT t = true) : TriOk t (edges t) := by
  unfold isT at h
  by_cases c : (t.length : Int) % 2 = 0 ∧ 3 ≤ edges t ∧ edges t ≤ 9
  · rw [if_pos c] at h
    obtain ⟨h1, h2, h3, _⟩ := triR_true h
    have e := edges_eq ht
    exact ⟨c.2.1, c.2.2, by omega, h1, h2, h3⟩
  · rw [if_neg c] at h
    exact absurd h (by simp)
theorem isT_ok {t : List (List Int)} (ht : t.length ≤ 1048576) (h : isT t = true) : TriOk t (edges t) := isT_ok' (by omega) h
theorem TriOk.short {t : List (List Int)} {n : Int} (h : TriOk t n) : t.length ≤ 6 ∧ 2 ≤ t.length := by
  have := h.n3
  have := h.n9
  have := h.len
  omega
theorem TriOk.at {t : List (List Int)} {n : Int} (h : TriOk t n) {i j : Nat} (hi : i < t.length) (hj : j < t[i].length) : t[i][j] ≠ 0 ∧ -n ≤ t[i][j] ∧ t[i][j] ≤ n :=
  h.inr _ (List.mem_flatten.2 ⟨t[i], List.getElem_mem hi, List.getElem_mem hj⟩)
theorem TriOk.three {t : List (List Int)} {n : Int} (h : TriOk t n) {i : Nat} (hi : i < t.length) : t[i].length = 3 := h.row _ (List.getElem_mem hi)
theorem TriOk.i64 {t : List (List Int)} {n : Int} (h : TriOk t n) {r : List Int} (hr : r ∈ t) : ∃ a b c, r = [a, b, c] ∧ (a ≠ 0 ∧ -n ≤ a ∧ a ≤ n) ∧ (b ≠ 0 ∧ -n ≤ b ∧ b ≤ n) ∧ (c ≠ 0 ∧ -n ≤ c ∧ c ≤ n) := by
  have hl := h.row r hr
  match r, hl with
  | [a, b, c], _ =>
    exact ⟨a, b, c, rfl, h.inr _ (List.mem_flatten.2 ⟨_, hr, by simp⟩), h.inr _ (List.mem_flatten.2 ⟨_, hr, by simp⟩), h.inr _ (List.mem_flatten.2 ⟨_, hr, by simp⟩)⟩
end Go.Proofs.Ytahokioglinpgaa.L

namespace Go.Proofs.Ytahokioglinpgaa.L
open Go.RowKit Go.Proofs.Ytahokioglinpgaa.P Go.Proofs.Ytahokioglinpgaa.Help Go.Proofs.YtahokioglinpgaaW.PrintWords
set_option linter.unusedVariables false
set_option linter.unusedSimpArgs false
/-- The row from its least number on. -/
def turnR (a b c : Int) : List Int := if c < (if b < a then b else a) then [c, a, b] else (if b < a then [b, c, a] else [a, b, c])
def mm (a b c : Int) : Int := if c < (if b < a then b else a) then 2 else (if b < a then 1 else 0)
theorem turnR_len (a b c : Int) : (turnR a b c).length = 3 := by
  unfold turnR
  by_cases h1 : b < a
  · rw [if_pos h1, if_pos h1]
    split <;> rfl
  · rw [if_neg h1, if_neg h1]
    split <;> rfl
theorem turn_mm (a b c : Int) : impl_turn.f [a, b, c] (mm a b c) = some (turnR a b c) := by
  unfold mm turnR
  by_cases h1 : b < a
  · simp only [if_pos h1]
    split <;> rfl
  · simp only [if_neg h1]
    split <;> rfl
theorem l2t0 (a b c : Int) : spec_l2Turn.f [a, b, c] 0 = some [a, b, c] := rfl
theorem l2t1 (a b c : Int) : spec_l2Turn.f [a, b, c] 1 = some [b, c, a] := rfl
theorem l2t2 (a b c : Int) : spec_l2Turn.f [a, b, c] 2 = some [c, a, b] := rfl
theorem im_l1 {t out : List (List Int)} {i a b c : Int} (e : rd_L1 t i = [a, b, c]) (k : Nat) : impl_TurnTriangles.l1 (k + 4) t out i 0 0 = impl_TurnTriangles.l2 k t out i (turnR a b c) (out.length : Int) := by
  have w1 : wrap64 (0 + 1) = 1 := (w_id (by decide) (by decide)).trans rfl
  have w2 : wrap64 (1 + 1) = 2 := (w_id (by decide) (by decide)).trans rfl
  have w3 : wrap64 (2 + 1) = 3 := (w_id (by decide) (by decide)).trans rfl
  have r0 : rd [a, b, c] 0 = a := rfl
  have r1 : rd [a, b, c] 1 = b := rfl
  have r2 : rd [a, b, c] 2 = c := rfl
  have hl : (([a, b, c] : List Int).length : Int) = 3 := rfl
  have s3 : ∀ k m, impl_TurnTriangles.l1 (k + 1) t out i m 3 = (impl_turn.f [a, b, c] m).bind fun own => (if 0 < own.length then impl_TurnTriangles.l2 k t out i own (out.length : Int) else none) := by
    intro k m
    simp only [impl_TurnTriangles.l1]
    rw [e, hl, if_neg (by decide)]
  have s0 : ∀ k, impl_TurnTriangles.l1 (k + 1) t out i 0 0 = impl_TurnTriangles.l1 k t out i 0 1 := by
    intro k
    simp only [impl_TurnTriangles.l1]
    rw [e, hl, if_pos (by decide), if_pos (by decide), if_pos (by decide), if_pos (by decide), if_neg (by omega), w1]
  have s1 : ∀ k, impl_TurnTriangles.l1 (k + 1) t out i 0 1 = if b < a then impl_TurnTriangles.l1 k t out i 1 2 else impl_TurnTriangles.l1 k t out i 0 2 := by
    intro k
    simp only [impl_TurnTriangles.l1]
    rw [e, hl, if_pos (by decide), if_pos (by decide), if_pos (by decide), if_pos (by decide), w2, r0, r1]
  have s20 : ∀ k, impl_TurnTriangles.l1 (k + 1) t out i 0 2 = if c < a then impl_TurnTriangles.l1 k t out i 2 3 else impl_TurnTriangles.l1 k t out i 0 3 := by
    intro k
    simp only [impl_TurnTriangles.l1]
    rw [e, hl, if_pos (by decide), if_pos (by decide), if_pos (by decide), if_pos (by decide), w3, r0, r2]
  have s21 : ∀ k, impl_TurnTriangles.l1 (k + 1) t out i 1 2 = if c < b then impl_TurnTriangles.l1 k t out i 2 3 else impl_TurnTriangles.l1 k t out i 1 3 := by
    intro k
    simp only [impl_TurnTriangles.l1]
    rw [e, hl, if_pos (by decide), if_pos (by decide), if_pos (by decide), if_pos (by decide), w3, r1, r2]
  have f : ∀ m, m = mm a b c → impl_TurnTriangles.l1 (k + 1) t out i m 3 = impl_TurnTriangles.l2 k t out i (turnR a b c) (out.length : Int) := by
    intro m hm
    rw [s3, hm, turn_mm, Option.bind_some, if_pos (by rw [turnR_len]; decide)]
  rw [s0, s1]
  by_cases h1 : b < a
  · rw [if_pos h1, s21]
    by_cases h2 : c < b
    · rw [if_pos h2]; exact f _ (by simp [mm, h1, h2])
    · rw [if_neg h2]; exact f _ (by simp [mm, h1, h2])
  · rw [if_neg h1, s20]
    by_cases h2 : c < a
    · rw [if_pos h2]; exact f _ (by simp [mm, h1, h2])
    · rw [if_neg h2]; exact f _ (by simp [mm, h1, h2])
theorem sp_l1 {t out : List (List Int)} {i a b c : Int} (e : rd_L1 t i = [a, b, c]) (k : Nat) : spec_TurnTriangles.l1 (k + 3) t out i [a, b, c] 1 = spec_TurnTriangles.l2 k t out i (turnR a b c) (out.length : Int) := by
  have w2 : wrap64 (1 + 1) = 2 := (w_id (by decide) (by decide)).trans rfl
  have w3 : wrap64 (2 + 1) = 3 := (w_id (by decide) (by decide)).trans rfl
  have r0 : ∀ x y z : Int, rd [x, y, z] 0 = x := fun _ _ _ => rfl
  have r1 : rd [a, b, c] 1 = b := rfl
  have r2 : rd [a, b, c] 2 = c := rfl
  have hl : ∀ x y z : Int, (([x, y, z] : List Int).length : Int) = 3 := fun _ _ _ => rfl
  have hn : ∀ x y z : Int, 0 < ([x, y, z] : List Int).length := fun _ _ _ => by simp
  have s3 : ∀ k row, spec_TurnTriangles.l1 (k + 1) t out i row 3 = spec_TurnTriangles.l2 k t out i row (out.length : Int) := by
    intro k m
    simp only [spec_TurnTriangles.l1]
    rw [if_neg (by decide)]
  have s1 : ∀ k, spec_TurnTriangles.l1 (k + 1) t out i [a, b, c] 1 = if b < a then spec_TurnTriangles.l1 k t out i [b, c, a] 2 else spec_TurnTriangles.l1 k t out i [a, b, c] 2 := by
    intro k
    simp only [spec_TurnTriangles.l1]
    rw [e, hl, if_pos (by decide), if_pos (by decide), if_pos (by decide), w2, r0, r1, l2t1, Option.bind_some, if_pos (hn _ _ _)]
  have s2 : ∀ k x y z, spec_TurnTriangles.l1 (k + 1) t out i [x, y, z] 2 = if c < x then spec_TurnTriangles.l1 k t out i [c, a, b] 3 else spec_TurnTriangles.l1 k t out i [x, y, z] 3 := by
    intro k x y z
    simp only [spec_TurnTriangles.l1]
    rw [e, hl, if_pos (by decide), if_pos (by decide), if_pos (by decide), w3, r0, r2, l2t2, Option.bind_some, if_pos (hn _ _ _)]
  have f : ∀ m, m = turnR a b c → spec_TurnTriangles.l1 (k + 1) t out i m 3 = spec_TurnTriangles.l2 k t out i (turnR a b c) (out.length : Int) := by
    intro m hm
    rw [s3, hm]
  rw [s1]
  by_cases h1 : b < a
  · rw [if_pos h1, s2]
    by_cases h2 : c < b
    · rw [if_pos h2]; exact f _ (by simp [turnR, h1, h2])
    · rw [if_neg h2]; exact f _ (by simp [turnR, h1, h2])
  · rw [if_neg h1, s2]
    by_cases h2 : c < a
    · rw [if_pos h2]; exact f _ (by simp [turnR, h1, h2])
    · rw [if_neg h2]; exact f _ (by simp [turnR, h1, h2])
/-- The place before which the row is laid. -/
def insAt (out : List (List Int)) (own : List Int) : Nat → Nat
  | 0 => 0
  | q + 1 => if rd (rd_L1 out (q : Int)) 0 > rd own 0 then insAt out own q else q + 1
def insT (out : List (List Int)) (own : List Int) : List (List Int) := out.take (insAt out own out.length) ++ (own :: out.drop (insAt out own out.length))
theorem im_l2 (t out : List (List Int)) (i : Nat) (own : List Int) (h3 : ∀ r ∈ out, r.length = 3) (hl : out.length ≤ 10) : ∀ (q k : Nat), q ≤ out.length → q < k → ∃ k', k ≤ k' + q + 1 ∧ impl_TurnTriangles.l2 k t out (i : Int) own (q : Int) = impl_TurnTriangles.l0 k' t (out.take (insAt out own q) ++ (own :: out.drop (insAt out own q))) (wrap64 ((i : Int) + 1))
  | 0, k, hq, hk => by
    obtain ⟨k, rfl⟩ : ∃ m, k = m + 1 := ⟨k - 1, by omega⟩
    refine ⟨k, by omega, ?_⟩
    simp only [impl_TurnTriangles.l2]
    rw [if_pos (by omega), if_pos (by omega), if_pos (by omega), if_neg (by omega)]
    rfl
  | q + 1, k, hq, hk => by
    obtain ⟨k, rfl⟩ : ∃ m, k = m + 1 := ⟨k - 1, by omega⟩
    have hlt : q < out.length := by omega
    have hr : 0 < (rd_L1 out (q : Int)).length := by rw [rdL_nat out q hlt, h3 _ (List.getElem_mem hlt)]; decide
    simp only [impl_TurnTriangles.l2]
    rw [if_pos (by omega), if_pos (by omega), if_pos (by omega), if_pos (by omega), show (((q + 1 : Nat) : Int) - 1) = (q : Int) by omega, if_pos hr, Int.toNat_natCast]
    by_cases c : rd (rd_L1 out (q : Int)) 0 > rd own 0
    · obtain ⟨k', hk', e⟩ := im_l2 t out i own h3 hl q k (by omega) (by omega)
      rw [if_pos c, insAt, if_pos c]
      exact ⟨k', by omega, e⟩
    · rw [if_neg c, insAt, if_neg c]
      exact ⟨k, by omega, rfl⟩
theorem sp_l2 (t out : List (List Int)) (i : Nat) (own : List Int) (h3 : ∀ r ∈ out, r.length = 3) (hl : out.length ≤ 10) : ∀ (q k : Nat), q ≤ out.length → q < k → ∃ k', k ≤ k' + q + 1 ∧ spec_TurnTriangles.l2 k t out (i : Int) own (q : Int) = spec_TurnTriangles.l0 k' t (out.take (insAt out own q) ++ (own :: out.drop (insAt out own q))) (wrap64 ((i : Int) + 1))
  | 0, k, hq, hk => by
    obtain ⟨k, rfl⟩ : ∃ m, k = m + 1 := ⟨k - 1, by omega⟩
    refine ⟨k, by omega, ?_⟩
    simp only [spec_TurnTriangles.l2]
    rw [if_pos (by omega), if_pos (by omega), if_pos (by omega), if_neg (by omega)]
    rfl
  | q + 1, k, hq, hk => by
    obtain ⟨k, rfl⟩ : ∃ m, k = m + 1 := ⟨k - 1, by omega⟩
    have hlt : q < out.length := by omega
    have hr : 0 < (rd_L1 out (q : Int)).length := by rw [rdL_nat out q hlt, h3 _ (List.getElem_mem hlt)]; decide
    simp only [spec_TurnTriangles.l2]
    rw [if_pos (by omega), if_pos (by omega), if_pos (by omega), if_pos (by omega), show (((q + 1 : Nat) : Int) - 1) = (q : Int) by omega, if_pos hr, Int.toNat_natCast]
    by_cases c : rd (rd_L1 out (q : Int)) 0 > rd own 0
    · obtain ⟨k', hk', e⟩ := sp_l2 t out i own h3 hl q k (by omega) (by omega)
      rw [if_pos c, insAt, if_pos c]
      exact ⟨k', by omega, e⟩
    · rw [if_neg c, insAt, if_neg c]
      exact ⟨k, by omega, rfl⟩
theorem insT_len (out : List (List Int)) (own : List Int) : (insT out own).length = out.length + 1 := by
  unfold insT
  rw [List.length_append, List.length_cons, List.length_take, List.length_drop]
  omega
theorem insT_mem {out : List (List Int)} {own r : List Int} (h : r ∈ insT out own) : r = own ∨ r ∈ out := by
  unfold insT at h
  rcases List.mem_append.1 h with h | h
  · exact .inr (List.mem_of_mem_take h)
  · rcases List.mem_cons.1 h with h | h
    · exact .inl h
    · exact .inr (List.mem_of_mem_drop h)
def trow (r : List Int) : List Int := turnR (r.getD 0 0) (r.getD 1 0) (r.getD 2 0)
def bld (l out : List (List Int)) : List (List Int) := l.foldl (fun o r => insT o (trow r)) out
theorem im_l0 {t : List (List Int)} {n : Int} (ok : TriOk t n) : ∀ (d k i : Nat) (out : List (List Int)), i + d = t.length → 30 * d + 1 < k → (∀ r ∈ out, r.length = 3) → out.length = i → impl_TurnTriangles.l0 k t out (i : Int) = some (bld (t.drop i) out)
  | 0, k, i, out, hi, hk, h3, ho => by
    obtain ⟨k, rfl⟩ : ∃ m, k = m + 1 := ⟨k - 1, by omega⟩
    simp only [impl_TurnTriangles.l0]
    rw [if_neg (by omega), List.drop_eq_nil_of_le (by omega)]
    rfl
  | d + 1, k, i, out, hi, hk, h3, ho => by
    obtain ⟨k, rfl⟩ : ∃ m, k = m + 5 := ⟨k - 5, by omega⟩
    have hlt : i < t.length := by omega
    have hs := ok.short
    obtain ⟨a, b, c, er, _⟩ := ok.i64 (List.getElem_mem hlt)
    have e : rd_L1 t (i : Int) = [a, b, c] := by rw [rdL_nat t i hlt, er]
    have et : trow t[i] = turnR a b c := by rw [er]; rfl
    obtain ⟨k', hk', e2⟩ := im_l2 t out i (turnR a b c) h3 (by omega) out.length k (Nat.le_refl _) (by omega)
    have ih := im_l0 ok d k' (i + 1) (insT out (turnR a b c)) (by omega) (by omega) (fun r hr => by
      rcases insT_mem hr with h | h
      · rw [h, turnR_len]
      · exact h3 r h) (by rw [insT_len]; omega)
    simp only [impl_TurnTriangles.l0]
    rw [if_pos (by omega), if_pos (by omega), im_l1 e k, e2, w_id (a := (i : Int) + 1) (by omega) (by omega), show ((i : Int) + 1) = ((i + 1 : Nat) : Int) by omega]
    refine ih.trans ?_
    rw [List.drop_eq_getElem_cons hlt]
    show _ = some (bld (t.drop (i + 1)) (insT out (trow t[i])))
    rw [et]
theorem sp_l0 {t : List (List Int)} {n : Int} (ok : TriOk t n) : ∀ (d k i : Nat) (out : List (List Int)), i + d = t.length → 30 * d + 1 < k → (∀ r ∈ out, r.length = 3) → out.length = i → spec_TurnTriangles.l0 k t out (i : Int) = some (bld (t.drop i) out)
  | 0, k, i, out, hi, hk, h3, ho => by
    obtain ⟨k, rfl⟩ : ∃ m, k = m + 1 := ⟨k - 1, by omega⟩
    simp only [spec_TurnTriangles.l0]
    rw [if_neg (by omega), List.drop_eq_nil_of_le (by omega)]
    rfl
  | d + 1, k, i, out, hi, hk, h3, ho => by
    obtain ⟨k, rfl⟩ : ∃ m, k = m + 4 := ⟨k - 4, by omega⟩
    have hlt : i < t.length := by omega
    have hs := ok.short
    obtain ⟨a, b, c, er, _⟩ := ok.i64 (List.getElem_mem hlt)
    have e : rd_L1 t (i : Int) = [a, b, c] := by rw [rdL_nat t i hlt, er]
    have et : trow t[i] = turnR a b c := by rw [er]; rfl
    obtain ⟨k', hk', e2⟩ := sp_l2 t out i (turnR a b c) h3 (by omega) out.length k (Nat.le_refl _) (by omega)
    have ih := sp_l0 ok d k' (i + 1) (insT out (turnR a b c)) (by omega) (by omega) (fun r hr => by
      rcases insT_mem hr with h | h
      · rw [h, turnR_len]
      · exact h3 r h) (by rw [insT_len]; omega)
    simp only [spec_TurnTriangles.l0]
    rw [if_pos (by omega), if_pos (by omega), e, l2t0, Option.bind_some, if_pos (by simp), sp_l1 e k, e2, w_id (a := (i : Int) + 1) (by omega) (by omega), show ((i : Int) + 1) = ((i + 1 : Nat) : Int) by omega]
    refine ih.trans ?_
    rw [List.drop_eq_getElem_cons hlt]
    show _ = some (bld (t.drop (i + 1)) (insT out (trow t[i])))
    rw [et]
theorem bld_len : ∀ (l out : List (List Int)), (bld l out).length = out.length + l.length
  | [], out => rfl
  | r :: l, out => by
    show (bld l (insT out (trow r))).length = _
    rw [bld_len l, insT_len, List.length_cons]
    omega
theorem bld_mem : ∀ (l out : List (List Int)) (r : List Int), (∀ x ∈ out, x.length = 3) → r ∈ bld l out → r.length = 3
  | [], out, r, h, hr => h r hr
  | x :: l, out, r, h, hr => bld_mem l (insT out (trow x)) r (fun y hy => by
      rcases insT_mem hy with e | e
      · rw [e]; exact turnR_len _ _ _
      · exact h y e) hr
def turnT (t : List (List Int)) : List (List Int) := if isT t = true then bld t [] else []
theorem turnT_len {t : List (List Int)} (ht : t.length ≤ 1048576) (h : isT t = true) : (turnT t).length = t.length ∧ 2 ≤ t.length := by
  have := (isT_ok ht h).short
  unfold turnT
  rw [if_pos h, bld_len, List.length_nil]
  omega
theorem turnT_bd (t : List (List Int)) (ht : t.length ≤ 1048576) : (turnT t).length ≤ 6 ∧ ∀ r ∈ turnT t, r.length = 3 := by
  unfold turnT
  by_cases h : isT t = true
  · have := (isT_ok ht h).short
    rw [if_pos h]
    exact ⟨by rw [bld_len, List.length_nil]; omega, fun r hr => bld_mem t [] r (fun x hx => by cases hx) hr⟩
  · rw [if_neg h]
    exact ⟨by simp, fun r hr => by cases hr⟩
theorem impl_turnT (t : List (List Int)) (ht : t.length ≤ 1048576) (k : Nat) (hk : 6000000 < k) : impl_TurnTriangles.f k t = some (turnT t) := by
  unfold impl_TurnTriangles.f turnT
  rw [impl_isT t ht k hk, Option.bind_some]
  by_cases h : isT t = true
  · have ok := isT_ok ht h
    have := ok.short
    have e := im_l0 ok t.length k 0 [] (by omega) (by omega) (fun x hx => by cases hx) rfl
    rw [if_pos h, if_pos h]
    exact e
  · rw [if_neg h, if_neg h]
theorem spec_turnT (t : List (List Int)) (ht : t.length ≤ 1048576) (k : Nat) (hk : 6000000 < k) : spec_TurnTriangles.f k t = some (turnT t) := by
  unfold spec_TurnTriangles.f turnT
  rw [spec_isT t ht k hk, Option.bind_some]
  by_cases h : isT t = true
  · have ok := isT_ok ht h
    have := ok.short
    have e := sp_l0 ok t.length k 0 [] (by omega) (by omega) (fun x hx => by cases hx) rfl
    rw [if_pos h, if_pos h]
    exact e
  · rw [if_neg h, if_neg h]
theorem tot3 : ∀ (l : List (List Int)), (∀ r ∈ l, r.length = 3) → tot l = 3 * l.length
  | [], _ => rfl
  | r :: l, h => by
    have := tot3 l (fun x hx => h x (List.mem_cons_of_mem _ hx))
    have h0 := h r List.mem_cons_self
    show r.length + tot l = _
    rw [List.length_cons]
    omega
end Go.Proofs.Ytahokioglinpgaa.L

namespace Go.Proofs.Ytahokioglinpgaa.L
open Go.RowKit Go.Proofs.Ytahokioglinpgaa.P Go.Proofs.Ytahokioglinpgaa.Help Go.Proofs.YtahokioglinpgaaW.PrintWords
set_option linter.unusedVariables false
set_option linter.unusedSimpArgs false
theorem dec_cons {α : Type} [DecidableEq α] {a b : List α} {i : Nat} (h1 : i < a.length) (h2 : i < b.length) (e : a[i] = b[i]) : decide (a.drop i = b.drop i) = decide (a.drop (i + 1) = b.drop (i + 1)) := by
  apply decide_eq_decide.2
  rw [List.drop_eq_getElem_cons h1, List.drop_eq_getElem_cons h2, e, List.cons.injEq]
  exact ⟨fun h => h.2, fun h => ⟨rfl, h⟩⟩
theorem dec_ne {α : Type} [DecidableEq α] {a b : List α} {i : Nat} (h1 : i < a.length) (h2 : i < b.length) (e : ¬ a[i] = b[i]) : decide (a.drop i = b.drop i) = false := by
  apply decide_eq_false
  rw [List.drop_eq_getElem_cons h1, List.drop_eq_getElem_cons h2, List.cons.injEq]
  exact fun h => e h.1
theorem dec_nil {α : Type} [DecidableEq α] {a b : List α} {i : Nat} (h1 : a.length ≤ i) (h2 : b.length ≤ i) : decide (a.drop i = b.drop i) = true := by
  rw [List.drop_eq_nil_of_le h1, List.drop_eq_nil_of_le h2]
  simp
theorem dec_len {α : Type} [DecidableEq α] {a b : List α} (h : ¬ (a.length : Int) = (b.length : Int)) : decide (a = b) = false := by
  apply decide_eq_false
  intro e
  rw [e] at h
  exact h rfl
theorem sameI_l0 (a b : List Int) (hl : a.length = b.length) (hs : a.length ≤ 100) : ∀ (d k i : Nat), i + d = a.length → d < k → impl_sameInts.l0 k a b (a.length : Int) (i : Int) = some (decide (a.drop i = b.drop i)) ∧ spec_l2Same.l0 k a b (i : Int) = some (decide (a.drop i = b.drop i))
  | 0, k, i, hi, hk => by
    obtain ⟨k, rfl⟩ : ∃ m, k = m + 1 := ⟨k - 1, by omega⟩
    rw [dec_nil (by omega) (by omega)]
    refine ⟨?_, ?_⟩
    · simp only [impl_sameInts.l0]
      rw [if_neg (by omega)]
    · simp only [spec_l2Same.l0]
      rw [if_neg (by omega)]
  | d + 1, k, i, hi, hk => by
    obtain ⟨k, rfl⟩ : ∃ m, k = m + 1 := ⟨k - 1, by omega⟩
    have h1 : i < a.length := by omega
    have h2 : i < b.length := by omega
    obtain ⟨e1, e2⟩ := sameI_l0 a b hl hs d k (i + 1) (by omega) (by omega)
    by_cases c : a[i] = b[i]
    · rw [dec_cons h1 h2 c]
      refine ⟨?_, ?_⟩
      · simp only [impl_sameInts.l0]
        rw [if_pos (by omega), if_pos (by omega), if_pos (by omega), if_pos (by omega), rd_nat a i h1, rd_nat b i h2, if_pos c, w_id (a := (i : Int) + 1) (by omega) (by omega), show ((i : Int) + 1) = ((i + 1 : Nat) : Int) by omega]
        exact e1
      · simp only [spec_l2Same.l0]
        rw [if_pos (by omega), if_pos (by omega), if_pos (by omega), rd_nat a i h1, rd_nat b i h2, if_pos c, w_id (a := (i : Int) + 1) (by omega) (by omega), show ((i : Int) + 1) = ((i + 1 : Nat) : Int) by omega]
        exact e2
    · rw [dec_ne h1 h2 c]
      refine ⟨?_, ?_⟩
      · simp only [impl_sameInts.l0]
        rw [if_pos (by omega), if_pos (by omega), if_pos (by omega), if_pos (by omega), rd_nat a i h1, rd_nat b i h2, if_neg c]
      · simp only [spec_l2Same.l0]
        rw [if_pos (by omega), if_pos (by omega), if_pos (by omega), rd_nat a i h1, rd_nat b i h2, if_neg c]
theorem sameI_f (a b : List Int) (hs : a.length ≤ 100) (k : Nat) (hk : 100 < k) : impl_sameInts.f k a b = some (decide (a = b)) ∧ spec_l2Same.f k a b = some (decide (a = b)) := by
  unfold impl_sameInts.f spec_l2Same.f
  by_cases h : (a.length : Int) = (b.length : Int)
  · have e := sameI_l0 a b (by omega) hs a.length k 0 (by omega) (by omega)
    rw [List.drop_zero, List.drop_zero] at e
    rw [if_pos h, if_pos h]
    exact e
  · rw [if_neg h, if_neg h, dec_len h]
    exact ⟨rfl, rfl⟩
theorem sameR_l0 (a b : List (List Int)) (hl : a.length = b.length) (hs : a.length ≤ 100) (h3 : ∀ r ∈ a, r.length = 3) : ∀ (d k i : Nat), i + d = a.length → 200 + d < k → impl_sameRows.l0 k a b (a.length : Int) (i : Int) = some (decide (a.drop i = b.drop i)) ∧ spec_l11Same.l0 k a b (i : Int) = some (decide (a.drop i = b.drop i))
  | 0, k, i, hi, hk => by
    obtain ⟨k, rfl⟩ : ∃ m, k = m + 1 := ⟨k - 1, by omega⟩
    rw [dec_nil (by omega) (by omega)]
    refine ⟨?_, ?_⟩
    · simp only [impl_sameRows.l0]
      rw [if_neg (by omega)]
    · simp only [spec_l11Same.l0]
      rw [if_neg (by omega)]
  | d + 1, k, i, hi, hk => by
    obtain ⟨k, rfl⟩ : ∃ m, k = m + 1 := ⟨k - 1, by omega⟩
    have h1 : i < a.length := by omega
    have h2 : i < b.length := by omega
    obtain ⟨e1, e2⟩ := sameR_l0 a b hl hs h3 d k (i + 1) (by omega) (by omega)
    obtain ⟨f1, f2⟩ := sameI_f a[i] b[i] (by rw [h3 _ (List.getElem_mem h1)]; decide) k (by omega)
    by_cases c : a[i] = b[i]
    · rw [dec_cons h1 h2 c]
      refine ⟨?_, ?_⟩
      · simp only [impl_sameRows.l0]
        rw [if_pos (by omega), if_pos (by omega), if_pos (by omega), if_pos (by omega), rdL_nat a i h1, rdL_nat b i h2, f1, Option.bind_some, if_pos (decide_eq_true c), w_id (a := (i : Int) + 1) (by omega) (by omega), show ((i : Int) + 1) = ((i + 1 : Nat) : Int) by omega]
        exact e1
      · simp only [spec_l11Same.l0]
        rw [if_pos (by omega), if_pos (by omega), if_pos (by omega), rdL_nat a i h1, rdL_nat b i h2, f2, Option.bind_some, if_pos (decide_eq_true c), w_id (a := (i : Int) + 1) (by omega) (by omega), show ((i : Int) + 1) = ((i + 1 : Nat) : Int) by omega]
        exact e2
    · rw [dec_ne h1 h2 c]
      refine ⟨?_, ?_⟩
      · simp only [impl_sameRows.l0]
        rw [if_pos (by omega), if_pos (by omega), if_pos (by omega), if_pos (by omega), rdL_nat a i h1, rdL_nat b i h2, f1, Option.bind_some, if_neg (fun h => c (of_decide_eq_true h))]
      · simp only [spec_l11Same.l0]
        rw [if_pos (by omega), if_pos (by omega), if_pos (by omega), rdL_nat a i h1, rdL_nat b i h2, f2, Option.bind_some, if_neg (fun h => c (of_decide_eq_true h))]
theorem sameR_f (a b : List (List Int)) (hs : a.length ≤ 100) (h3 : ∀ r ∈ a, r.length = 3) (k : Nat) (hk : 1000 < k) : impl_sameRows.f k a b = some (decide (a = b)) ∧ spec_l11Same.f k a b = some (decide (a = b)) := by
  unfold impl_sameRows.f spec_l11Same.f
  by_cases h : (a.length : Int) = (b.length : Int)
  · have e := sameR_l0 a b (by omega) hs h3 a.length k 0 (by omega) (by omega)
    rw [List.drop_zero, List.drop_zero] at e
    rw [if_pos h, if_pos h]
    exact e
  · rw [if_neg h, if_neg h, dec_len h]
    exact ⟨rfl, rfl⟩
theorem same_both (s t : List (List Int)) (hs : s.length ≤ 1048576) (ht : t.length ≤ 1048576) (k : Nat) (hk : 6000000 < k) : ∃ b, spec_SameTriangles.f k s t = some b ∧ impl_SameTriangles.f k s t = some b := by
  unfold spec_SameTriangles.f impl_SameTriangles.f
  rw [spec_isT s hs k hk, impl_isT s hs k hk, Option.bind_some, Option.bind_some]
  by_cases h1 : isT s = true
  · obtain ⟨b1, b2⟩ := turnT_bd s hs
    obtain ⟨e1, e2⟩ := sameR_f (turnT s) (turnT t) (by omega) b2 k (by omega)
    rw [if_pos h1, if_pos h1, impl_isT t ht k hk, spec_turnT s hs k hk, spec_turnT t ht k hk, impl_turnT s hs k hk, impl_turnT t ht k hk, Option.bind_some, Option.bind_some, Option.bind_some, Option.bind_some, Option.bind_some, e1, e2, Option.bind_some]
    by_cases h2 : isT t = true
    · rw [if_pos h2]
      exact ⟨_, rfl, rfl⟩
    · have hn : decide (turnT s = turnT t) = false := by
        apply decide_eq_false
        intro e
        have l1 := turnT_len hs h1
        have l2 : turnT t = [] := by unfold turnT; rw [if_neg h2]
        rw [e, l2] at l1
        have := l1.1
        simp at this
        omega
      rw [if_neg h2, hn]
      exact ⟨_, rfl, rfl⟩
  · rw [if_neg h1, if_neg h1]
    exact ⟨_, rfl, rfl⟩
end Go.Proofs.Ytahokioglinpgaa.L

namespace Go.Proofs.Ytahokioglinpgaa.L
open Go.RowKit Go.Proofs.Ytahokioglinpgaa.P Go.Proofs.Ytahokioglinpgaa.Help Go.Proofs.YtahokioglinpgaaW.PrintWords
set_option linter.unusedVariables false
set_option linter.unusedSimpArgs false

theorem szIntS_f (r : List Int) (hr : r.length ≤ 9223372036854775807) (a : Int) (h0 : 0 ≤ a) (h1 : a ≤ 1048576) : laws_szIntS.f r a = some (if a - r.length < 0 then -1 else a - r.length) := by
  unfold laws_szIntS.f
  rw [w_id (by omega) (by omega)]
  split <;> rfl
theorem szIntSS_l0 (xs : List (List Int)) (hx : xs.length ≤ 1048576) (hr : ∀ r ∈ xs, r.length ≤ 9223372036854775807) : ∀ (d k i : Nat) (a : Int), i + d = xs.length → d < k → 0 ≤ a → a ≤ 1048576 → ∃ t, laws_szIntSS.l0 k xs a (i : Int) = some t ∧ (0 ≤ t → (∀ r ∈ xs.drop i, r.length ≤ 1048576) ∧ t + tot (xs.drop i) = a) := by
  intro d
  induction d with
  | zero =>
    intro k i a hi hk h0 h1
    obtain ⟨k, rfl⟩ : ∃ m, k = m + 1 := ⟨k - 1, by omega⟩
    simp only [laws_szIntSS.l0]
    rw [if_neg (by omega), List.drop_of_length_le (by omega)]
    exact ⟨a, rfl, fun _ => ⟨fun r hr => by simp at hr, by simp [tot]⟩⟩
  | succ d ih =>
    intro k i a hi hk h0 h1
    obtain ⟨k, rfl⟩ : ∃ m, k = m + 1 := ⟨k - 1, by omega⟩
    have hlt : i < xs.length := by omega
    simp only [laws_szIntSS.l0]
    rw [if_pos (by omega), if_pos (by omega), rdL_nat xs i hlt, szIntS_f _ (hr _ (List.getElem_mem hlt)) a h0 h1, Option.bind_some]
    by_cases h : a - (xs[i].length : Int) < 0
    · rw [if_pos h, if_pos (by decide)]
      exact ⟨-1, rfl, fun h => absurd h (by decide)⟩
    · rw [if_neg h, if_neg h, w_id (by omega) (by omega), show ((i : Int) + 1) = ((i + 1 : Nat) : Int) by omega]
      obtain ⟨t, ht, hd⟩ := ih k (i + 1) (a - xs[i].length) (by omega) (by omega) (by omega) (by omega)
      refine ⟨t, ht, fun h2 => ⟨fun r hr => ?_, ?_⟩⟩
      · rw [List.drop_eq_getElem_cons hlt] at hr
        rcases List.mem_cons.1 hr with rfl | hr
        · omega
        · exact (hd h2).1 r hr
      · rw [List.drop_eq_getElem_cons hlt, tot]
        have := (hd h2).2
        omega
theorem szIntSS_f (xs : List (List Int)) (hx : xs.length ≤ 9223372036854775807) (hr : ∀ r ∈ xs, r.length ≤ 9223372036854775807) (a : Int) (h0 : 0 ≤ a) (h1 : a ≤ 1048576) (k : Nat) (hk : 1048577 < k) : ∃ t, laws_szIntSS.f k xs a = some t ∧ (0 ≤ t → xs.length ≤ 1048576 ∧ (∀ r ∈ xs, r.length ≤ 1048576) ∧ tot xs ≤ 1048576) := by
  unfold laws_szIntSS.f
  rw [w_id (by omega) (by omega)]
  by_cases h : a - (xs.length : Int) < 0
  · rw [if_pos h]
    exact ⟨-1, rfl, fun h => absurd h (by decide)⟩
  · rw [if_neg h]
    obtain ⟨t, ht, hd⟩ := szIntSS_l0 xs (by omega) hr xs.length k 0 (a - xs.length) (by omega) (by omega) (by omega) (by omega)
    refine ⟨t, ht, fun h2 => ⟨by omega, ?_⟩⟩
    have := hd h2
    rw [List.drop_zero] at this
    exact ⟨this.1, by omega⟩
theorem toIntSS_l0 (xs : List (List Int)) (hx : xs.length ≤ 1048576) (hr : ∀ r ∈ xs, r.length ≤ 1048576) : ∀ (d k i : Nat) (ys : List (List Int)), i + d = xs.length → d + 1048577 < k → ys.length = xs.length → ys.take i = xs.take i → laws_toIntSS.l0 k xs ys (i : Int) = some xs := by
  intro d
  induction d with
  | zero =>
    intro k i ys hi hk hl ht
    obtain ⟨k, rfl⟩ : ∃ m, k = m + 1 := ⟨k - 1, by omega⟩
    simp only [laws_toIntSS.l0]
    rw [if_neg (by omega)]
    rw [List.take_of_length_le (by omega), List.take_of_length_le (by omega)] at ht
    rw [ht]
  | succ d ih =>
    intro k i ys hi hk hl ht
    obtain ⟨k, rfl⟩ : ∃ m, k = m + 1 := ⟨k - 1, by omega⟩
    have hlt : i < xs.length := by omega
    simp only [laws_toIntSS.l0]
    rw [if_pos (by omega), if_pos (by omega), rdL_nat xs i hlt, toIntS_f _ (hr _ (List.getElem_mem hlt)) k (by omega), Option.bind_some, if_pos (by omega), w_id (by omega) (by omega), show ((i : Int) + 1) = ((i + 1 : Nat) : Int) by omega, Int.toNat_natCast]
    refine ih k (i + 1) _ (by omega) (by omega) (by rw [List.length_set]; exact hl) ?_
    rw [List.take_succ_eq_append_getElem (by rw [List.length_set]; omega), List.take_succ_eq_append_getElem (by omega), List.getElem_set_self, List.take_set_of_le (by omega), ht]
theorem toIntSS_f (xs : List (List Int)) (hx : xs.length ≤ 1048576) (hr : ∀ r ∈ xs, r.length ≤ 1048576) (k : Nat) (hk : 3000000 < k) : laws_toIntSS.f k xs = some xs := by
  unfold laws_toIntSS.f
  rw [if_pos (by omega), if_pos (by omega), Int.toNat_natCast]
  exact toIntSS_l0 xs (by omega) hr xs.length k 0 _ (by omega) (by omega) (by simp) (by simp)
theorem eqIntSS_l0 (xs : List (List Int)) (hx : xs.length ≤ 1048576) (hr : ∀ r ∈ xs, r.length ≤ 1048576) : ∀ (d k i : Nat), i + d = xs.length → d + 1048577 < k → laws_eqIntSS.l0 k xs xs (i : Int) = some true := by
  intro d
  induction d with
  | zero =>
    intro k i hi hk
    obtain ⟨k, rfl⟩ : ∃ m, k = m + 1 := ⟨k - 1, by omega⟩
    simp only [laws_eqIntSS.l0]
    rw [if_neg (by omega)]
  | succ d ih =>
    intro k i hi hk
    obtain ⟨k, rfl⟩ : ∃ m, k = m + 1 := ⟨k - 1, by omega⟩
    have hlt : i < xs.length := by omega
    simp only [laws_eqIntSS.l0]
    rw [if_pos (by omega), if_pos (by omega), if_pos (by omega), rdL_nat xs i hlt, eqIntS_self _ (hr _ (List.getElem_mem hlt)) k (by omega), Option.bind_some]
    rw [if_pos rfl, w_id (by omega) (by omega), show ((i : Int) + 1) = ((i + 1 : Nat) : Int) by omega, ih k (i + 1) (by omega) (by omega)]
theorem eqIntSS_self (xs : List (List Int)) (hx : xs.length ≤ 1048576) (hr : ∀ r ∈ xs, r.length ≤ 1048576) (k : Nat) (hk : 3000000 < k) : laws_eqIntSS.f k xs xs = some true := by
  unfold laws_eqIntSS.f
  rw [if_pos rfl]
  exact eqIntSS_l0 xs (by omega) hr xs.length k 0 (by omega) (by omega)
end Go.Proofs.Ytahokioglinpgaa.L

namespace Go.Proofs.Ytahokioglinpgaa.Pure
open Go.RowKit Go.Proofs.Ytahokioglinpgaa.P Go.Proofs.Ytahokioglinpgaa.Help Go.Proofs.Ytahokioglinpgaa.L
theorem szIntSS_g (xs : List (List Int)) (hx : xs.length ≤ 9223372036854775807) (hr : ∀ r ∈ xs, r.length ≤ 9223372036854775807) (a : Int) (h0 : 0 ≤ a) (h1 : a ≤ 1048576) (k : Nat) (hk : 1048577 < k) : ∃ t, laws_szIntSS.f k xs a = some t ∧ (0 ≤ t → xs.length ≤ 1048576 ∧ (∀ r ∈ xs, r.length ≤ 1048576) ∧ t ≤ a) := by
  unfold laws_szIntSS.f
  rw [w_id (by omega) (by omega)]
  by_cases h : a - (xs.length : Int) < 0
  · rw [if_pos h]
    exact ⟨-1, rfl, fun h => absurd h (by decide)⟩
  · rw [if_neg h]
    obtain ⟨t, ht, hd⟩ := szIntSS_l0 xs (by omega) hr xs.length k 0 (a - xs.length) (by omega) (by omega) (by omega) (by omega)
    refine ⟨t, ht, fun h2 => ⟨by omega, ?_⟩⟩
    have := hd h2
    rw [List.drop_zero] at this
    exact ⟨this.1, by omega⟩
theorem FnExactSameTriangles : ∀ (l0 : List (List Int)) (l1 : List (List Int)), l0.length ≤ 9223372036854775807 → (∀ r ∈ l0, r.length ≤ 9223372036854775807) → (∀ r ∈ l0, ∀ x ∈ r, I64 x) → l1.length ≤ 9223372036854775807 → (∀ r ∈ l1, r.length ≤ 9223372036854775807) → (∀ r ∈ l1, ∀ x ∈ r, I64 x) → ∃ k, laws_FnExactSameTriangles.f k l0 l1 = some true := by
  intro s t h1 h2 _ h4 h5 _
  refine ⟨10000000, ?_⟩
  unfold laws_FnExactSameTriangles.f
  obtain ⟨z, hz, hb⟩ := szIntSS_g s h1 h2 1048576 (by decide) (by decide) 10000000 (by decide)
  rw [hz, Option.bind_some]
  by_cases h : z < 0
  · rw [if_pos h]
  · obtain ⟨b1, b2, b3⟩ := hb (by omega)
    obtain ⟨z2, hz2, hb2⟩ := szIntSS_g t h4 h5 z (by omega) (by omega) 10000000 (by decide)
    rw [if_neg h, hz2, Option.bind_some]
    by_cases h' : z2 < 0
    · rw [if_pos h']
    · obtain ⟨d1, d2, d3⟩ := hb2 (by omega)
      obtain ⟨b, f1, f2⟩ := same_both s t b1 d1 10000000 (by decide)
      have e0 := toIntSS_f s b1 b2 10000000 (by decide)
      have e1 := toIntSS_f t d1 d2 10000000 (by decide)
      have e4 := eqIntSS_self s b1 b2 10000000 (by decide)
      have e5 := eqIntSS_self t d1 d2 10000000 (by decide)
      rw [if_neg h']
      simp only [Option.bind_some, e0, e1, e4, e5, f1, f2, if_true]
end Go.Proofs.Ytahokioglinpgaa.Pure
