/- The program's Shorten answers as the reference's, for all arguments; no condition. -/
import Derived.Test.YtolmicnapemljaaQPx0
import Derived.Test.YtolmicnapemljaaQHelp
import Derived.Test.YtolmicnapemljaaQPx1
import Derived.Test.YtolmicnapemljaaQPx3
import Derived.Test.YtolmicnapemljaaQPx4
import Derived.Test.YtolmicnapemljaaQPx5
import Derived.Test.YtolmicnapemljaaQPx2
import Derived.Test.YtolmicnapemljaaQPx6
import Derived.Test.YtolmicnapemljaaQPx19
import Derived.Test.YtolmicnapemljaaQPx21
import Derived.Test.YtolmicnapemljaaQPx9
import Derived.Test.YtolmicnapemljaaQPx8
import Derived.Test.YtolmicnapemljaaQPx7
import Derived.Test.YtolmicnapemljaaQPx10
import Derived.Test.YtolmicnapemljaaQPx27
import Derived.Test.YtolmicnapemljaaQPx13
import Derived.Test.YtolmicnapemljaaQPx20
import Derived.Test.YtolmicnapemljaaQPx22
import Derived.Test.YtolmicnapemljaaQPx34
import Derived.Test.YtolmicnapemljaaQPx35
import Derived.Test.YtolmicnapemljaaQPx43
import Derived.Test.YtolmicnapemljaaQPx44
import Derived.Test.YtolmicnapemljaaQPx45
import Derived.Test.YtolmicnapemljaaQPx46
import Derived.Test.YtolmicnapemljaaQPx16
import Derived.Test.YtolmicnapemljaaQPx60
import Derived.Test.YtolmicnapemljaaQWlFnExactShorten

namespace Go.Proofs.Ytolmicnapemljaa.L
open Go.RowKit Go.Proofs.Ytolmicnapemljaa.P Go.Proofs.Ytolmicnapemljaa.Help Go.Proofs.YtolmicnapemljaaW.PrintWords
set_option linter.unusedVariables false
set_option linter.unusedSimpArgs false

theorem w_id {a : Int} (h0 : -9223372036854775808 ≤ a) (h1 : a ≤ 9223372036854775807) : wrap64 a = a := by unfold wrap64; omega
theorem rd_nat (xs : List Int) (i : Nat) (h : i < xs.length) : rd xs (i : Int) = xs[i] := by
  unfold rd
  simp [List.getD_eq_getElem?_getD, List.getElem?_eq_getElem h]
end Go.Proofs.Ytolmicnapemljaa.L

namespace Go.Proofs.Ytolmicnapemljaa.L
open Go.RowKit Go.Proofs.Ytolmicnapemljaa.P Go.Proofs.Ytolmicnapemljaa.Help Go.Proofs.YtolmicnapemljaaW.PrintWords
set_option linter.unusedVariables false
set_option linter.unusedSimpArgs false

theorem l1In_eq (a lo hi : Int) : spec_l1In.f a lo hi = some (decide (lo ≤ a ∧ a ≤ hi)) := by
  unfold spec_l1In.f
  by_cases h : lo ≤ a <;> simp [h]
theorem within_eq (a lo hi : Int) : impl_within.f a lo hi = some (decide (lo ≤ a ∧ a ≤ hi)) := by
  unfold impl_within.f
  by_cases h : lo ≤ a <;> simp [h]
end Go.Proofs.Ytolmicnapemljaa.L

namespace Go.Proofs.Ytolmicnapemljaa.L
open Go.RowKit Go.Proofs.Ytolmicnapemljaa.P Go.Proofs.Ytolmicnapemljaa.Help Go.Proofs.YtolmicnapemljaaW.PrintWords
set_option linter.unusedVariables false
set_option linter.unusedSimpArgs false

theorem toIntS_l0 (xs : List Int) (hx : xs.length ≤ 1000000000000) : ∀ (d k i : Nat) (ys : List Int), i + d = xs.length → d < k → ys.length = xs.length → ys.take i = xs.take i → laws_toIntS.l0 k xs ys (i : Int) = some xs := by
  intro d
  induction d with
  | zero =>
    intro k i ys hi hk hl ht
    obtain ⟨k, rfl⟩ : ∃ m, k = m + 1 := ⟨k - 1, by omega⟩
    simp only [laws_toIntS.l0]
    rw [if_neg (by omega)]
    rw [List.take_of_length_le (by omega), List.take_of_length_le (by omega)] at ht
    rw [ht]
  | succ d ih =>
    intro k i ys hi hk hl ht
    obtain ⟨k, rfl⟩ : ∃ m, k = m + 1 := ⟨k - 1, by omega⟩
    simp only [laws_toIntS.l0]
    rw [if_pos (by omega), if_pos (by omega), if_pos (by omega), w_id (by omega) (by omega), show ((i : Int) + 1) = ((i + 1 : Nat) : Int) by omega, Int.toNat_natCast, rd_nat xs i (by omega)]
    refine ih k (i + 1) _ (by omega) (by omega) (by rw [List.length_set]; exact hl) ?_
    rw [List.take_succ_eq_append_getElem (by rw [List.length_set]; omega), List.take_succ_eq_append_getElem (by omega), List.getElem_set_self, List.take_set_of_le (by omega), ht]
theorem toIntS_f (xs : List Int) (hx : xs.length ≤ 1048576) (k : Nat) (hk : 1048576 < k) : laws_toIntS.f k xs = some xs := by
  unfold laws_toIntS.f
  rw [if_pos (by omega), if_pos (by omega), Int.toNat_natCast]
  exact toIntS_l0 xs (by omega) xs.length k 0 _ (by omega) (by omega) (by simp) (by simp)
theorem eqIntS_l0 (xs : List Int) (hx : xs.length ≤ 1000000000000) : ∀ (d k i : Nat), i + d = xs.length → d < k → laws_eqIntS.l0 k xs xs (i : Int) = some true := by
  intro d
  induction d with
  | zero =>
    intro k i hi hk
    obtain ⟨k, rfl⟩ : ∃ m, k = m + 1 := ⟨k - 1, by omega⟩
    simp only [laws_eqIntS.l0]
    rw [if_neg (by omega)]
  | succ d ih =>
    intro k i hi hk
    obtain ⟨k, rfl⟩ : ∃ m, k = m + 1 := ⟨k - 1, by omega⟩
    simp only [laws_eqIntS.l0]
    rw [if_pos (by omega), if_pos (by omega), if_pos (by omega)]
    simp only [if_true]
    rw [w_id (by omega) (by omega), show ((i : Int) + 1) = ((i + 1 : Nat) : Int) by omega, ih k (i + 1) (by omega) (by omega)]
theorem eqIntS_self (xs : List Int) (hx : xs.length ≤ 1048576) (k : Nat) (hk : 1048576 < k) : laws_eqIntS.f k xs xs = some true := by
  unfold laws_eqIntS.f
  rw [if_pos rfl]
  exact eqIntS_l0 xs (by omega) xs.length k 0 (by omega) (by omega)
end Go.Proofs.Ytolmicnapemljaa.L

namespace Go.Proofs.Ytolmicnapemljaa.L
open Go.RowKit Go.Proofs.Ytolmicnapemljaa.P Go.Proofs.Ytolmicnapemljaa.Help Go.Proofs.YtolmicnapemljaaW.PrintWords
set_option linter.unusedVariables false
set_option linter.unusedSimpArgs false

/-- How many numbers. -/
def tot : List (List Int) → Nat
  | [] => 0
  | r :: rs => r.length + tot rs
theorem rdL_nat (xs : List (List Int)) (i : Nat) (h : i < xs.length) : rd_L1 xs (i : Int) = xs[i] := by
  unfold rd_L1
  simp [List.getD_eq_getElem?_getD, List.getElem?_eq_getElem h]
end Go.Proofs.Ytolmicnapemljaa.L

namespace Go.Proofs.Ytolmicnapemljaa.L
open Go.RowKit Go.Proofs.Ytolmicnapemljaa.P Go.Proofs.Ytolmicnapemljaa.Help Go.Proofs.YtolmicnapemljaaW.PrintWords
set_option linter.unusedVariables false
set_option linter.unusedSimpArgs false

/-- The letters of a row, put to those that are seen. -/
def rowR (n : Int) : List Int → List Int → Option (List Int)
  | seen, [] => some seen
  | seen, x :: xs => if x ≠ 0 ∧ (-n ≤ x ∧ x ≤ n) ∧ x ∉ seen then rowR n (x :: seen) xs else none
def triR (n : Int) : List Int → List (List Int) → Bool
  | _, [] => true
  | seen, r :: rs => if r.length = 3 then (match rowR n seen r with | some s => triR n s rs | none => false) else false
/-- The number of edges. -/
def edges (t : List (List Int)) : Int := wrap64 (Int.tdiv (wrap64 (3 * (t.length : Int))) 2)
def isT (t : List (List Int)) : Bool := if (t.length : Int) % 2 = 0 ∧ 3 ≤ edges t ∧ edges t ≤ 9 then triR (edges t) [] t else false

theorem impl_tri_l1 (t : List (List Int)) (n : Int) (hn : 3 ≤ n ∧ n ≤ 9) (i : Nat) (hi : i < t.length) (hl : t[i].length = 3) : ∀ (d j k : Nat) (seen : List Int), j + d = 3 → d < k →
    impl_IsTriangulation.l1 k t n seen (i : Int) (j : Int) = (match rowR n seen (t[i].drop j) with | some s => impl_IsTriangulation.l0 (k - d - 1) t n s (wrap64 ((i : Int) + 1)) | none => some false) := by
  intro d
  induction d with
  | zero =>
    intro j k seen hj hk
    obtain ⟨k, rfl⟩ : ∃ m, k = m + 1 := ⟨k - 1, by omega⟩
    simp only [impl_IsTriangulation.l1]
    rw [rdL_nat t i hi, if_neg (by omega), List.drop_of_length_le (by omega)]
    rfl
  | succ d ih =>
    intro j k seen hj hk
    obtain ⟨k, rfl⟩ : ∃ m, k = m + 1 := ⟨k - 1, by omega⟩
    have hlt : j < t[i].length := by omega
    simp only [impl_IsTriangulation.l1]
    rw [rdL_nat t i hi, if_pos (by omega), if_pos (by omega), rd_nat _ j hlt, within_eq, Option.bind_some, w_id (a := -n) (by omega) (by omega), List.drop_eq_getElem_cons hlt]
    by_cases h1 : t[i][j] = 0
    · rw [if_pos h1]
      simp [rowR, h1]
    · rw [if_neg h1]
      by_cases h2 : -n ≤ t[i][j] ∧ t[i][j] ≤ n
      · rw [if_pos (by simpa using h2)]
        by_cases h3 : t[i][j] ∈ seen
        · rw [if_pos h3]
          simp [rowR, h3]
        · rw [if_neg h3, w_id (a := (j : Int) + 1) (by omega) (by omega), show ((j : Int) + 1) = ((j + 1 : Nat) : Int) by omega, ih (j + 1) k _ (by omega) (by omega), rowR, if_pos ⟨h1, h2, h3⟩, show k + 1 - (d + 1) - 1 = k - d - 1 by omega]
      · rw [if_neg (by simpa using h2), rowR, if_neg (fun h => h2 h.2.1)]
theorem impl_tri_l0 (t : List (List Int)) (ht : t.length ≤ 1048600) (n : Int) (hn : 3 ≤ n ∧ n ≤ 9) : ∀ (d i k : Nat) (seen : List Int), i + d = t.length → 5 * d < k →
    impl_IsTriangulation.l0 k t n seen (i : Int) = some (triR n seen (t.drop i)) := by
  intro d
  induction d with
  | zero =>
    intro i k seen hi hk
    obtain ⟨k, rfl⟩ : ∃ m, k = m + 1 := ⟨k - 1, by omega⟩
    simp only [impl_IsTriangulation.l0]
    rw [if_neg (by omega), List.drop_of_length_le (by omega)]
    rfl
  | succ d ih =>
    intro i k seen hi hk
    obtain ⟨k, rfl⟩ : ∃ m, k = m + 1 := ⟨k - 1, by omega⟩
    have hlt : i < t.length := by omega
    simp only [impl_IsTriangulation.l0]
    rw [if_pos (by omega), if_pos (by omega), rdL_nat t i hlt, List.drop_eq_getElem_cons hlt, triR]
    by_cases h1 : t[i].length = 3
    · have := impl_tri_l1 t n hn i hlt h1 3 0 k seen (by omega) (by omega)
      rw [if_pos (by omega), if_pos h1, show (0 : Int) = ((0 : Nat) : Int) from rfl, this, List.drop_zero]
      cases rowR n seen t[i] with
      | none => rfl
      | some s =>
        show impl_IsTriangulation.l0 _ t n s _ = some (triR n s _)
        rw [w_id (by omega) (by omega), show ((i : Int) + 1) = ((i + 1 : Nat) : Int) by omega, ih (i + 1) _ s (by omega) (by omega)]
    · rw [if_neg (by omega), if_neg h1]
theorem impl_isT' (t : List (List Int)) (ht : t.length ≤ 1048600) (k : Nat) (hk : 6000000 < k) : impl_IsTriangulation.f k t = some (isT t) := by
  obtain ⟨k, rfl⟩ : ∃ m, k = m + 1 := ⟨k - 1, by omega⟩
  unfold impl_IsTriangulation.f
  rw [within_eq, Option.bind_some]
  unfold isT edges
  by_cases h1 : (t.length : Int) % 2 = 0
  · rw [if_pos h1]
    simp only [impl_IsTriangulation.j0]
    by_cases h2 : 3 ≤ wrap64 (Int.tdiv (wrap64 (3 * (t.length : Int))) 2) ∧ wrap64 (Int.tdiv (wrap64 (3 * (t.length : Int))) 2) ≤ 9
    · rw [if_neg (by simpa using h2), if_pos ⟨h1, h2⟩]
      have := impl_tri_l0 t ht _ h2 t.length 0 k [] (by omega) (by omega)
      rw [List.drop_zero] at this
      exact this
    · rw [if_pos (by rw [decide_eq_false h2]; rfl), if_neg (fun h => h2 h.2)]
  · rw [if_neg h1]
    simp only [impl_IsTriangulation.j0]
    rw [if_pos trivial, if_neg (fun h => h1 h.1)]
/-- What is marked is what is seen. -/
def Marks (n : Int) (x4 : List Bool) (seen : List Int) : Prop := (x4.length : Int) = 2 * n + 1 ∧ ∀ y, -n ≤ y → y ≤ n → rdOf false x4 (n + y) = decide (y ∈ seen)
theorem Marks.put {n : Int} {x4 : List Bool} {seen : List Int} (h : Marks n x4 seen) {x : Int} (hx : -n ≤ x ∧ x ≤ n) : Marks n (x4.set (n + x).toNat true) (x :: seen) := by
  obtain ⟨h1, h2⟩ := h
  refine ⟨by rw [List.length_set]; exact h1, fun y hy1 hy2 => ?_⟩
  have h3 := h2 y hy1 hy2
  unfold rdOf at h3 ⊢
  rw [List.getD_eq_getElem?_getD] at h3 ⊢
  rw [List.getElem?_set]
  by_cases e : (n + x).toNat = (n + y).toNat
  · have : x = y := by omega
    subst this
    rw [if_pos rfl, if_pos (by omega)]
    simp
  · have hne : y ≠ x := fun e' => e (by rw [e'])
    rw [if_neg e, h3]
    simp [hne]
theorem Marks.made {n : Int} (hn : 0 ≤ n) : Marks n (List.replicate (2 * n + 1).toNat false) [] := by
  refine ⟨by rw [List.length_replicate]; omega, fun y _ _ => ?_⟩
  unfold rdOf
  rw [List.getD_eq_getElem?_getD, List.getElem?_replicate]
  split <;> simp
theorem spec_tri_l1 (t : List (List Int)) (n : Int) (hn : 3 ≤ n ∧ n ≤ 9) (i : Nat) (hi : i < t.length) (hl : t[i].length = 3) : ∀ (d j k : Nat) (x4 : List Bool) (seen : List Int), Marks n x4 seen → j + d = 3 → d < k →
    (rowR n seen (t[i].drop j) = none ∧ spec_IsTriangulation.l1 k t n x4 (i : Int) (j : Int) = some false) ∨ ∃ s x4', rowR n seen (t[i].drop j) = some s ∧ Marks n x4' s ∧ spec_IsTriangulation.l1 k t n x4 (i : Int) (j : Int) = spec_IsTriangulation.l0 (k - d - 1) t n x4' (wrap64 ((i : Int) + 1)) := by
  intro d
  induction d with
  | zero =>
    intro j k x4 seen hm hj hk
    obtain ⟨k, rfl⟩ : ∃ m, k = m + 1 := ⟨k - 1, by omega⟩
    simp only [spec_IsTriangulation.l1]
    rw [if_neg (by omega), List.drop_of_length_le (by omega)]
    exact .inr ⟨seen, x4, rfl, hm, rfl⟩
  | succ d ih =>
    intro j k x4 seen hm hj hk
    obtain ⟨k, rfl⟩ : ∃ m, k = m + 1 := ⟨k - 1, by omega⟩
    have hlt : j < t[i].length := by omega
    simp only [spec_IsTriangulation.l1]
    rw [if_pos (by omega), if_pos (by omega), if_pos (by omega), if_pos (by omega), rdL_nat t i hi, if_pos (by omega), rd_nat _ j hlt, l1In_eq, Option.bind_some, w_id (a := -n) (by omega) (by omega), List.drop_eq_getElem_cons hlt]
    by_cases h1 : t[i][j] = 0
    · rw [if_pos h1]
      exact .inl ⟨by simp [rowR, h1], rfl⟩
    · rw [if_neg h1]
      by_cases h2 : -n ≤ t[i][j] ∧ t[i][j] ≤ n
      · have hx := hm.2 _ h2.1 h2.2
        have hlen := hm.1
        rw [if_pos (by simpa using h2), w_id (a := n + t[i][j]) (by omega) (by omega), if_pos (by omega), if_pos (by omega), hx]
        by_cases h3 : t[i][j] ∈ seen
        · rw [if_pos (by simpa using h3)]
          exact .inl ⟨by simp [rowR, h3], rfl⟩
        · rw [if_neg (by simpa using h3), w_id (a := (j : Int) + 1) (by omega) (by omega), show ((j : Int) + 1) = ((j + 1 : Nat) : Int) by omega, rowR, if_pos ⟨h1, h2, h3⟩, show k + 1 - (d + 1) - 1 = k - d - 1 by omega]
          exact ih (j + 1) k _ _ (hm.put h2) (by omega) (by omega)
      · rw [if_neg (by simpa using h2), rowR, if_neg (fun h => h2 h.2.1)]
        exact .inl ⟨rfl, rfl⟩
theorem spec_tri_l0 (t : List (List Int)) (ht : t.length ≤ 1048600) (n : Int) (hn : 3 ≤ n ∧ n ≤ 9) : ∀ (d i k : Nat) (x4 : List Bool) (seen : List Int), Marks n x4 seen → i + d = t.length → 5 * d < k →
    spec_IsTriangulation.l0 k t n x4 (i : Int) = some (triR n seen (t.drop i)) := by
  intro d
  induction d with
  | zero =>
    intro i k x4 seen hm hi hk
    obtain ⟨k, rfl⟩ : ∃ m, k = m + 1 := ⟨k - 1, by omega⟩
    simp only [spec_IsTriangulation.l0]
    rw [if_neg (by omega), List.drop_of_length_le (by omega)]
    rfl
  | succ d ih =>
    intro i k x4 seen hm hi hk
    obtain ⟨k, rfl⟩ : ∃ m, k = m + 1 := ⟨k - 1, by omega⟩
    have hlt : i < t.length := by omega
    simp only [spec_IsTriangulation.l0]
    rw [if_pos (by omega), if_pos (by omega), rdL_nat t i hlt, List.drop_eq_getElem_cons hlt, triR]
    by_cases h1 : t[i].length = 3
    · rw [if_pos (by omega), if_pos h1, show (0 : Int) = ((0 : Nat) : Int) from rfl]
      rcases spec_tri_l1 t n hn i hlt h1 3 0 k x4 seen hm (by omega) (by omega) with ⟨h2, h3⟩ | ⟨s, x4', h2, h3, h4⟩
      · rw [h3]
        rw [List.drop_zero] at h2
        rw [h2]
      · rw [h4]
        rw [List.drop_zero] at h2
        rw [h2, w_id (by omega) (by omega), show ((i : Int) + 1) = ((i + 1 : Nat) : Int) by omega]
        exact ih (i + 1) _ x4' s h3 (by omega) (by omega)
    · rw [if_neg (by omega), if_neg h1]
theorem spec_isT' (t : List (List Int)) (ht : t.length ≤ 1048600) (k : Nat) (hk : 6000000 < k) : spec_IsTriangulation.f k t = some (isT t) := by
  obtain ⟨k, rfl⟩ : ∃ m, k = m + 1 := ⟨k - 1, by omega⟩
  unfold spec_IsTriangulation.f
  rw [l1In_eq, Option.bind_some]
  unfold isT edges
  by_cases h1 : (t.length : Int) % 2 = 0
  · rw [if_pos h1]
    simp only [spec_IsTriangulation.j0]
    by_cases h2 : 3 ≤ wrap64 (Int.tdiv (wrap64 (3 * (t.length : Int))) 2) ∧ wrap64 (Int.tdiv (wrap64 (3 * (t.length : Int))) 2) ≤ 9
    · obtain ⟨n, hn⟩ : ∃ n : Int, wrap64 (Int.tdiv (wrap64 (3 * (t.length : Int))) 2) = n := ⟨_, rfl⟩
      rw [hn] at h2 ⊢
      rw [if_neg (by simpa using h2), if_pos (show (t.length : Int) % 2 = 0 ∧ 3 ≤ n ∧ n ≤ 9 from ⟨h1, h2⟩), w_id (a := 2 * n) (by omega) (by omega), w_id (a := 2 * n + 1) (by omega) (by omega), if_pos (by omega), if_pos (by omega)]
      have := spec_tri_l0 t ht n h2 t.length 0 k _ [] (Marks.made (by omega)) (by omega) (by omega)
      rw [List.drop_zero] at this
      exact this
    · rw [if_pos (by rw [decide_eq_false h2]; rfl), if_neg (fun h => h2 h.2)]
  · rw [if_neg h1]
    simp only [spec_IsTriangulation.j0]
    rw [if_pos trivial, if_neg (fun h => h1 h.1)]
theorem impl_isT (t : List (List Int)) (ht : t.length ≤ 1048576) (k : Nat) (hk : 6000000 < k) : impl_IsTriangulation.f k t = some (isT t) := impl_isT' t (by omega) k hk
theorem spec_isT (t : List (List Int)) (ht : t.length ≤ 1048576) (k : Nat) (hk : 6000000 < k) : spec_IsTriangulation.f k t = some (isT t) := spec_isT' t (by omega) k hk
end Go.Proofs.Ytolmicnapemljaa.L


namespace Go.Proofs.Ytolmicnapemljaa.L
open Go.RowKit Go.Proofs.Ytolmicnapemljaa.P Go.Proofs.Ytolmicnapemljaa.Help Go.Proofs.YtolmicnapemljaaW.PrintWords
set_option linter.unusedVariables false
set_option linter.unusedSimpArgs false

theorem rowR_some {n : Int} : ∀ {r seen s : List Int}, rowR n seen r = some s → (∀ x ∈ r, x ≠ 0 ∧ -n ≤ x ∧ x ≤ n) ∧ r.Nodup ∧ (∀ x ∈ r, x ∉ seen) ∧ ∀ x, x ∈ s ↔ x ∈ r ∨ x ∈ seen
  | [], seen, s, h => by
    have e : seen = s := Option.some.inj h
    subst e
    simp
  | y :: ys, seen, s, h => by
    rw [rowR] at h
    by_cases c : y ≠ 0 ∧ (-n ≤ y ∧ y ≤ n) ∧ y ∉ seen
    · rw [if_pos c] at h
      obtain ⟨h1, h2, h3, h4⟩ := rowR_some h
      refine ⟨fun x hx => ?_, List.nodup_cons.2 ⟨fun hy => h3 y hy List.mem_cons_self, h2⟩, fun x hx hs => ?_, fun x => ?_⟩
      · rcases List.mem_cons.1 hx with rfl | hx
        · exact ⟨c.1, c.2.1⟩
        · exact h1 x hx
      · rcases List.mem_cons.1 hx with rfl | hx
        · exact c.2.2 hs
        · exact h3 x hx (List.mem_cons_of_mem _ hs)
      · rw [h4 x, List.mem_cons, List.mem_cons]
        constructor
        · rintro (h | h | h)
          · exact .inl (.inr h)
          · exact .inl (.inl h)
          · exact .inr h
        · rintro ((h | h) | h)
          · exact .inr (.inl h)
          · exact .inl h
          · exact .inr (.inr h)
    · rw [if_neg c] at h
      exact absurd h (by simp)
theorem triR_true {n : Int} : ∀ {rows : List (List Int)} {seen : List Int}, triR n seen rows = true → (∀ r ∈ rows, r.length = 3) ∧ (∀ x ∈ rows.flatten, x ≠ 0 ∧ -n ≤ x ∧ x ≤ n) ∧ rows.flatten.Nodup ∧ ∀ x ∈ rows.flatten, x ∉ seen
  | [], seen, _ => by simp
  | r :: rs, seen, h => by
    rw [triR] at h
    by_cases c : r.length = 3
    · rw [if_pos c] at h
      cases hr : rowR n seen r with
      | none => rw [hr] at h; exact absurd h (by simp)
      | some s =>
        rw [hr] at h
        obtain ⟨h1, h2, h3, h4⟩ := rowR_some hr
        obtain ⟨g1, g2, g3, g4⟩ := triR_true (show triR n s rs = true from h)
        refine ⟨fun x hx => ?_, fun x hx => ?_, ?_, fun x hx hs => ?_⟩
        · rcases List.mem_cons.1 hx with rfl | hx
          · exact c
          · exact g1 x hx
        · rw [List.flatten_cons, List.mem_append] at hx
          rcases hx with hx | hx
          · exact h1 x hx
          · exact g2 x hx
        · rw [List.flatten_cons]
          refine List.nodup_append.2 ⟨h2, g3, fun a ha b hb e => ?_⟩
          subst e
          exact g4 a hb ((h4 a).2 (.inl ha))
        · rw [List.flatten_cons, List.mem_append] at hx
          rcases hx with hx | hx
          · exact h3 x hx hs
          · exact g4 x hx ((h4 x).2 (.inr hs))
    · rw [if_neg c] at h
      exact absurd h (by simp)
/-- A triangulation with n edges. -/
structure TriOk (t : List (List Int)) (n : Int) : Prop where
  n3 : 3 ≤ n
  n9 : n ≤ 9
  len : 3 * (t.length : Int) = 2 * n
  row : ∀ r ∈ t, r.length = 3
  inr : ∀ x ∈ t.flatten, x ≠ 0 ∧ -n ≤ x ∧ x ≤ n
  nodup : t.flatten.Nodup
theorem edges_eq {t : List (List Int)} (ht : t.length ≤ 1048600) : edges t = 3 * (t.length : Int) / 2 := by
  unfold edges
  rw [w_id (a := 3 * (t.length : Int)) (by omega) (by omega), Int.tdiv_eq_ediv_of_nonneg (by omega), w_id (by omega) (by omega)]
theorem isT_ok' {t : List (List Int)} (ht : t.length ≤ 1048600) (h : isT t = true) : TriOk t (edges t) := by
  unfold isT at h
  by_cases c : (t.length : Int) % 2 = 0 ∧ 3 ≤ edges t ∧ edges t ≤ 9
  · rw [if_pos c] at h
    obtain ⟨h1, h2, h3, _⟩ := triR_true h
    have e := edges_eq ht
    exact ⟨c.2.1, c.2.2, by omega, h1, h2, h3⟩
  · rw [if_neg c] at h
    exact absurd h (by simp)
theorem isT_ok {t : List (List Int)} (ht : t.length ≤ 1048576) (h : isT t = true) : TriOk t (edges t) := isT_ok' (by omega) h
theorem TriOk.short {t : List (List Int)} {n : Int} (h : TriOk t n) : t.length ≤ 6 ∧ 2 ≤ t.length := by
  have := h.n3
  have := h.n9
  have := h.len
  omega
theorem TriOk.at {t : List (List Int)} {n : Int} (h : TriOk t n) {i j : Nat} (hi : i < t.length) (hj : j < t[i].length) : t[i][j] ≠ 0 ∧ -n ≤ t[i][j] ∧ t[i][j] ≤ n :=
  h.inr _ (List.mem_flatten.2 ⟨t[i], List.getElem_mem hi, List.getElem_mem hj⟩)
theorem TriOk.three {t : List (List Int)} {n : Int} (h : TriOk t n) {i : Nat} (hi : i < t.length) : t[i].length = 3 := h.row _ (List.getElem_mem hi)
theorem TriOk.i64 {t : List (List Int)} {n : Int} (h : TriOk t n) {r : List Int} (hr : r ∈ t) : ∃ a b c, r = [a, b, c] ∧ (a ≠ 0 ∧ -n ≤ a ∧ a ≤ n) ∧ (b ≠ 0 ∧ -n ≤ b ∧ b ≤ n) ∧ (c ≠ 0 ∧ -n ≤ c ∧ c ≤ n) := by
  have hl := h.row r hr
  match r, hl with
  | [a, b, c], _ =>
    exact ⟨a, b, c, rfl, h.inr _ (List.mem_flatten.2 ⟨_, hr, by simp⟩), h.inr _ (List.mem_flatten.2 ⟨_, hr, by simp⟩), h.inr _ (List.mem_flatten.2 ⟨_, hr, by simp⟩)⟩
end Go.Proofs.Ytolmicnapemljaa.L

namespace Go.Proofs.Ytolmicnapemljaa.L
open Go.RowKit Go.Proofs.Ytolmicnapemljaa.P Go.Proofs.Ytolmicnapemljaa.Help Go.Proofs.YtolmicnapemljaaW.PrintWords
set_option linter.unusedVariables false
set_option linter.unusedSimpArgs false

/-- The first place of a number. -/
def idx (x : Int) : List Int → Int → Int
  | [], _ => -1
  | y :: ys, j => if y = x then j else idx x ys (j + 1)
def sideR (x : Int) : List (List Int) → Int → Int × Int
  | [], _ => (-1, -1)
  | r :: rs, i => if 0 ≤ idx x r 0 then (i, idx x r 0) else sideR x rs (i + 1)
theorem idx_bd (x : Int) : ∀ (ys : List Int) (j : Int), 0 ≤ j → idx x ys j = -1 ∨ (j ≤ idx x ys j ∧ idx x ys j < j + ys.length)
  | [], j, _ => .inl rfl
  | y :: ys, j, hj => by
    rw [idx, List.length_cons]
    split
    · exact .inr (by omega)
    · rcases idx_bd x ys (j + 1) (by omega) with h | h
      · exact .inl h
      · exact .inr (by omega)
theorem idx_hit (x : Int) : ∀ (ys : List Int) (j : Int), 0 ≤ j → x ∈ ys → j ≤ idx x ys j ∧ idx x ys j < j + ys.length
  | [], j, _, h => absurd h (by simp)
  | y :: ys, j, hj, h => by
    rw [idx, List.length_cons]
    by_cases e : y = x
    · rw [if_pos e]; omega
    · rw [if_neg e]
      have := idx_hit x ys (j + 1) (by omega) (by
        rcases List.mem_cons.1 h with h | h
        · exact absurd h.symm e
        · exact h)
      omega
theorem idx_at (x : Int) : ∀ (ys : List Int) (j : Int), 0 ≤ j → 0 ≤ idx x ys j → ys[(idx x ys j - j).toNat]? = some x
  | [], j, _, h => absurd h (by simp [idx])
  | y :: ys, j, hj, h => by
    rw [idx] at h ⊢
    by_cases e : y = x
    · rw [if_pos e]
      simp [e]
    · rw [if_neg e] at h ⊢
      have ih := idx_at x ys (j + 1) (by omega) h
      rcases idx_bd x ys (j + 1) (by omega) with h2 | h2
      · omega
      · rw [show (idx x ys (j + 1) - j).toNat = (idx x ys (j + 1) - (j + 1)).toNat + 1 by omega, List.getElem?_cons_succ]
        exact ih
theorem indexOf_l0 (x : Int) (xs : List Int) (hx : xs.length ≤ 1000000000000) : ∀ (d k j : Nat), j + d = xs.length → d < k → impl_indexOf.l0 k x xs (xs.length : Int) (j : Int) = some (idx x (xs.drop j) (j : Int)) := by
  intro d
  induction d with
  | zero =>
    intro k j hj hk
    obtain ⟨k, rfl⟩ : ∃ m, k = m + 1 := ⟨k - 1, by omega⟩
    simp only [impl_indexOf.l0]
    rw [if_neg (by omega), List.drop_of_length_le (by omega)]
    rfl
  | succ d ih =>
    intro k j hj hk
    obtain ⟨k, rfl⟩ : ∃ m, k = m + 1 := ⟨k - 1, by omega⟩
    have hlt : j < xs.length := by omega
    simp only [impl_indexOf.l0]
    rw [if_pos (by omega), if_pos (by omega), if_pos (by omega), rd_nat xs j hlt, List.drop_eq_getElem_cons hlt, idx]
    by_cases e : xs[j] = x
    · rw [if_pos e, if_pos e]
    · rw [if_neg e, if_neg e, w_id (by omega) (by omega), show ((j : Int) + 1) = ((j + 1 : Nat) : Int) by omega, ih k (j + 1) (by omega) (by omega)]
theorem indexOf_f (x : Int) (xs : List Int) (hx : xs.length ≤ 1000000000000) (k : Nat) (hk : xs.length < k) : impl_indexOf.f k xs x = some (idx x xs 0) := by
  unfold impl_indexOf.f
  have := indexOf_l0 x xs hx xs.length k 0 (by omega) hk
  rw [List.drop_zero] at this
  exact this
theorem sideAt_l0 (x : Int) (t : List (List Int)) (ht : t.length ≤ 1048576) (hr : ∀ r ∈ t, r.length ≤ 1048576) : ∀ (d k i : Nat), i + d = t.length → d + 1048577 < k → impl_sideAt.l0 k x t (t.length : Int) (i : Int) = some (sideR x (t.drop i) (i : Int)) := by
  intro d
  induction d with
  | zero =>
    intro k i hi hk
    obtain ⟨k, rfl⟩ : ∃ m, k = m + 1 := ⟨k - 1, by omega⟩
    simp only [impl_sideAt.l0]
    rw [if_neg (by omega), List.drop_of_length_le (by omega)]
    rfl
  | succ d ih =>
    intro k i hi hk
    obtain ⟨k, rfl⟩ : ∃ m, k = m + 1 := ⟨k - 1, by omega⟩
    have hlt : i < t.length := by omega
    have hl := hr _ (List.getElem_mem hlt)
    simp only [impl_sideAt.l0]
    rw [if_pos (by omega), if_pos (by omega), if_pos (by omega), rdL_nat t i hlt, indexOf_f x _ (by omega) k (by omega), Option.bind_some, List.drop_eq_getElem_cons hlt, sideR]
    by_cases e : 0 ≤ idx x t[i] 0
    · rw [if_pos e, if_pos e]
    · rw [if_neg e, if_neg e, w_id (by omega) (by omega), show ((i : Int) + 1) = ((i + 1 : Nat) : Int) by omega, ih k (i + 1) (by omega) (by omega)]
theorem sideAt_f (x : Int) (t : List (List Int)) (ht : t.length ≤ 1048576) (hr : ∀ r ∈ t, r.length ≤ 1048576) (k : Nat) (hk : 3000000 < k) : impl_sideAt.f k t x = some (sideR x t 0) := by
  unfold impl_sideAt.f
  have := sideAt_l0 x t ht hr t.length k 0 (by omega) (by omega)
  rw [List.drop_zero] at this
  exact this
end Go.Proofs.Ytolmicnapemljaa.L

namespace Go.Proofs.Ytolmicnapemljaa.L
open Go.RowKit Go.Proofs.Ytolmicnapemljaa.P Go.Proofs.Ytolmicnapemljaa.Help Go.Proofs.YtolmicnapemljaaW.PrintWords
set_option linter.unusedVariables false
set_option linter.unusedSimpArgs false

theorem getD_at {α : Type} {l : List α} (d : α) {i : Nat} (h : i < l.length) : l.getD i d = l[i] := by
  rw [List.getD_eq_getElem?_getD, List.getElem?_eq_getElem h, Option.getD_some]
/-- The letter of a side, the sides counted on from the last to the first. -/
def sideOf (t : List (List Int)) (i : Nat) (j : Nat) : Int := (t.getD i []).getD (j % 3) 0
theorem sideOf_in {t : List (List Int)} {n : Int} (ok : TriOk t n) {i : Nat} (hi : i < t.length) (j : Nat) : sideOf t i j ≠ 0 ∧ -n ≤ sideOf t i j ∧ sideOf t i j ≤ n := by
  have h3 := ok.three hi
  have hj : j % 3 < t[i].length := by omega
  have := ok.at hi hj
  unfold sideOf
  rw [getD_at _ hi, getD_at _ hj]
  exact this
theorem flat3 : ∀ {t : List (List Int)}, (∀ r ∈ t, r.length = 3) → t.flatten.length = 3 * t.length
  | [], _ => rfl
  | r :: rs, h => by
    rw [List.flatten_cons, List.length_append, h r List.mem_cons_self, flat3 (fun x hx => h x (List.mem_cons_of_mem _ hx)), List.length_cons]
    omega
/-- All letters and inverses. -/
def letters (n : Nat) : List Int := (List.range n).map (fun (k : Nat) => (k : Int) + 1) ++ (List.range n).map (fun (k : Nat) => -(k : Int) - 1)
theorem mem_letters {n : Nat} {x : Int} (h0 : x ≠ 0) (h1 : -(n : Int) ≤ x) (h2 : x ≤ n) : x ∈ letters n := by
  unfold letters
  rw [List.mem_append, List.mem_map, List.mem_map]
  by_cases h : 0 < x
  · exact .inl ⟨(x - 1).toNat, List.mem_range.2 (by omega), by omega⟩
  · exact .inr ⟨(-x - 1).toNat, List.mem_range.2 (by omega), by omega⟩
theorem TriOk.all {t : List (List Int)} {n : Int} (ok : TriOk t n) {x : Int} (h0 : x ≠ 0) (h1 : -n ≤ x) (h2 : x ≤ n) : x ∈ t.flatten := by
  apply Classical.byContradiction
  intro hc
  have n3 := ok.n3
  obtain ⟨m, rfl⟩ : ∃ m : Nat, n = m := ⟨n.toNat, by omega⟩
  have hx := mem_letters h0 h1 h2
  have hs : ∀ y, y ∈ t.flatten → y ∈ (letters m).erase x := by
    intro y hy
    have hb := ok.inr y hy
    exact (List.mem_erase_of_ne (fun e => hc (by rw [← e]; exact hy))).2 (mem_letters hb.1 hb.2.1 hb.2.2)
  have hl := List.Nodup.length_le_of_subset ok.nodup hs
  rw [List.length_erase_of_mem hx, flat3 ok.row] at hl
  have : (letters m).length = 2 * m := by unfold letters; simp; omega
  have := ok.len
  omega
theorem sideR_at (x : Int) : ∀ (rs : List (List Int)) (b : Int), 0 ≤ b → x ∈ rs.flatten → ∃ i j : Nat, i < rs.length ∧ ∃ h : i < rs.length, j < rs[i].length ∧ rs[i][j]? = some x ∧ sideR x rs b = (b + i, (j : Int))
  | [], b, _, h => absurd h (by simp)
  | r :: rs, b, hb, h => by
    rw [sideR]
    by_cases hr : 0 ≤ idx x r 0
    · have h1 := idx_at x r 0 (by omega) hr
      have h2 := idx_bd x r 0 (by omega)
      rw [if_pos hr]
      refine ⟨0, (idx x r 0).toNat, by simp, by simp, ?_, ?_, ?_⟩
      · show (idx x r 0).toNat < r.length
        omega
      · show r[(idx x r 0).toNat]? = some x
        rw [Int.sub_zero] at h1
        exact h1
      · have e : ((idx x r 0).toNat : Int) = idx x r 0 := by omega
        rw [e]
        simp
    · rw [if_neg hr]
      rw [List.flatten_cons, List.mem_append] at h
      rcases h with h | h
      · have := idx_hit x r 0 (by omega) h
        exact absurd this.1 hr
      · obtain ⟨i, j, hi, hi', hj, he, hs⟩ := sideR_at x rs (b + 1) (by omega) h
        refine ⟨i + 1, j, by simpa using hi, by simpa using hi, ?_, ?_, ?_⟩
        · simpa using hj
        · simpa using he
        · rw [hs]
          refine Prod.ext ?_ rfl
          show b + 1 + (i : Int) = b + ((i + 1 : Nat) : Int)
          omega
/-- Where a letter stands. -/
theorem TriOk.side {t : List (List Int)} {n : Int} (ok : TriOk t n) {x : Int} (h0 : x ≠ 0) (h1 : -n ≤ x) (h2 : x ≤ n) : ∃ i j : Nat, i < t.length ∧ j < 3 ∧ sideR x t 0 = ((i : Int), (j : Int)) ∧ sideOf t i j = x := by
  obtain ⟨i, j, hi, _, hj, he, hs⟩ := sideR_at x t 0 (by omega) (ok.all h0 h1 h2)
  have h3 := ok.three hi
  refine ⟨i, j, hi, by omega, by rw [hs, Int.zero_add], ?_⟩
  unfold sideOf
  rw [getD_at _ hi, List.getD_eq_getElem?_getD, Nat.mod_eq_of_lt (by omega), he]
  rfl
theorem rd_side {t : List (List Int)} {n : Int} (ok : TriOk t n) {i : Nat} (hi : i < t.length) (j : Nat) : rd (rd_L1 t (i : Int)) (Int.tmod (j : Int) 3) = sideOf t i j := by
  have h3 := ok.three hi
  rw [rdL_nat t i hi, Int.tmod_eq_emod_of_nonneg (by omega), show ((j : Int) % 3) = ((j % 3 : Nat) : Int) by omega, rd_nat _ _ (by omega)]
  unfold sideOf
  rw [getD_at _ hi, getD_at _ (by omega)]
end Go.Proofs.Ytolmicnapemljaa.L

namespace Go.Proofs.Ytolmicnapemljaa.L
open Go.RowKit Go.Proofs.Ytolmicnapemljaa.P Go.Proofs.Ytolmicnapemljaa.Help Go.Proofs.YtolmicnapemljaaW.PrintWords
set_option linter.unusedVariables false
set_option linter.unusedSimpArgs false

theorem find_l1 (x : Int) (t : List (List Int)) (i : Nat) (hi : i < t.length) (hl : t[i].length = 3) : ∀ (d j k : Nat), j + d = 3 → d < k →
    spec_l16Find.l1 k t x (i : Int) (j : Int) = (if 0 ≤ idx x (t[i].drop j) (j : Int) then some ((i : Int), idx x (t[i].drop j) (j : Int)) else spec_l16Find.l0 (k - d - 1) t x (wrap64 ((i : Int) + 1))) := by
  intro d
  induction d with
  | zero =>
    intro j k hj hk
    obtain ⟨k, rfl⟩ : ∃ m, k = m + 1 := ⟨k - 1, by omega⟩
    simp only [spec_l16Find.l1]
    rw [if_neg (by omega), List.drop_of_length_le (by omega), idx, if_neg (by omega)]
    rfl
  | succ d ih =>
    intro j k hj hk
    obtain ⟨k, rfl⟩ : ∃ m, k = m + 1 := ⟨k - 1, by omega⟩
    have hlt : j < t[i].length := by omega
    simp only [spec_l16Find.l1]
    rw [if_pos (by omega), if_pos (by omega), if_pos (by omega), if_pos (by omega), rdL_nat t i hi, if_pos (by omega), rd_nat _ j hlt, List.drop_eq_getElem_cons hlt, idx]
    by_cases e : t[i][j] = x
    · rw [if_pos e, if_pos e, if_pos (by omega)]
    · rw [if_neg e, if_neg e, w_id (a := (j : Int) + 1) (by omega) (by omega), show ((j : Int) + 1) = ((j + 1 : Nat) : Int) by omega, ih (j + 1) k (by omega) (by omega), show k + 1 - (d + 1) - 1 = k - d - 1 by omega]
theorem find_l0 (x : Int) (t : List (List Int)) (ht : t.length ≤ 1048576) (hr : ∀ r ∈ t, r.length = 3) : ∀ (d k i : Nat), i + d = t.length → 5 * d < k → spec_l16Find.l0 k t x (i : Int) = some (sideR x (t.drop i) (i : Int)) := by
  intro d
  induction d with
  | zero =>
    intro k i hi hk
    obtain ⟨k, rfl⟩ : ∃ m, k = m + 1 := ⟨k - 1, by omega⟩
    simp only [spec_l16Find.l0]
    rw [if_neg (by omega), List.drop_of_length_le (by omega)]
    rfl
  | succ d ih =>
    intro k i hi hk
    obtain ⟨k, rfl⟩ : ∃ m, k = m + 1 := ⟨k - 1, by omega⟩
    have hlt : i < t.length := by omega
    have hl := hr _ (List.getElem_mem hlt)
    simp only [spec_l16Find.l0]
    rw [if_pos (by omega)]
    have := find_l1 x t i hlt hl 3 0 k (by omega) (by omega)
    rw [List.drop_zero, show ((0 : Nat) : Int) = 0 from rfl] at this
    rw [this, List.drop_eq_getElem_cons hlt, sideR]
    by_cases e : 0 ≤ idx x t[i] 0
    · rw [if_pos e, if_pos e]
    · rw [if_neg e, if_neg e, w_id (by omega) (by omega), show ((i : Int) + 1) = ((i + 1 : Nat) : Int) by omega, ih _ (i + 1) (by omega) (by omega)]
theorem find_f (x : Int) (t : List (List Int)) (ht : t.length ≤ 1048576) (hr : ∀ r ∈ t, r.length = 3) (k : Nat) (hk : 6000000 < k) : spec_l16Find.f k t x = some (sideR x t 0) := by
  unfold spec_l16Find.f
  have := find_l0 x t ht hr t.length k 0 (by omega) (by omega)
  rw [List.drop_zero] at this
  exact this
/-- An edge's number. -/
def isE (t : List (List Int)) (e : Int) : Bool := isT t && decide (1 ≤ e ∧ e ≤ edges t)
theorem spec_isE (t : List (List Int)) (ht : t.length ≤ 1048576) (e : Int) (k : Nat) (hk : 6000000 < k) : spec_l16Is.f k t e = some (isE t e) := by
  unfold spec_l16Is.f isE
  rw [spec_isT t ht k hk, Option.bind_some]
  by_cases h : isT t = true
  · rw [if_pos h, l1In_eq, Option.bind_some, h]
    rfl
  · rw [if_neg h]
    simp at h
    rw [h]
    rfl
/-- May an edge be flipped? -/
def canR (t : List (List Int)) (e : Int) : Bool := isE t e && ((sideR e t 0).1 != (sideR (-e) t 0).1)
theorem isE_bd {t : List (List Int)} {e : Int} (ht : t.length ≤ 1048576) (h : isE t e = true) : TriOk t (edges t) ∧ 1 ≤ e ∧ e ≤ edges t := by
  unfold isE at h
  rw [Bool.and_eq_true, decide_eq_true_iff] at h
  exact ⟨isT_ok ht h.1, h.2⟩
theorem spec_can (t : List (List Int)) (ht : t.length ≤ 1048576) (e : Int) (k : Nat) (hk : 6000000 < k) : spec_CanFlip.f k t e = some (canR t e) := by
  unfold spec_CanFlip.f canR
  rw [spec_isE t ht e k hk, Option.bind_some]
  by_cases h : isE t e = true
  · obtain ⟨ok, h1, h2⟩ := isE_bd ht h
    have := ok.n9
    rw [if_pos h, find_f _ t ht ok.row k hk, Option.bind_some, w_id (a := -e) (by omega) (by omega), find_f _ t ht ok.row k hk, Option.bind_some, h]
    rfl
  · rw [if_neg h]
    simp at h
    rw [h]
    rfl
theorem impl_can (t : List (List Int)) (ht : t.length ≤ 1048576) (hr : ∀ r ∈ t, r.length ≤ 1048576) (e : Int) (k : Nat) (hk : 6000001 < k) : impl_CanFlip.f k t e = some (canR t e) := by
  obtain ⟨k, rfl⟩ : ∃ m, k = m + 1 := ⟨k - 1, by omega⟩
  unfold impl_CanFlip.f canR isE
  rw [impl_isT t ht _ (by omega), Option.bind_some, within_eq, Option.bind_some]
  simp only [impl_CanFlip.j0]
  by_cases h : isT t = true
  · rw [if_pos h]
    by_cases h2 : 1 ≤ e ∧ e ≤ edges t
    · have ok := isT_ok ht h
      have := ok.n9
      rw [if_neg (by rw [show wrap64 (Int.tdiv (wrap64 (3 * (t.length : Int))) 2) = edges t from rfl, decide_eq_true h2]; decide), sideAt_f _ t ht hr k (by omega), Option.bind_some, w_id (a := -e) (by omega) (by omega), sideAt_f _ t ht hr k (by omega), Option.bind_some, h, decide_eq_true h2]
      rfl
    · rw [if_pos (by rw [show wrap64 (Int.tdiv (wrap64 (3 * (t.length : Int))) 2) = edges t from rfl, decide_eq_false h2]; decide), decide_eq_false h2, Bool.and_false, Bool.false_and]
  · rw [if_neg h, if_pos trivial]
    simp at h
    rw [h]
    rfl
end Go.Proofs.Ytolmicnapemljaa.L

namespace Go.Proofs.Ytolmicnapemljaa.L
open Go.RowKit Go.Proofs.Ytolmicnapemljaa.P Go.Proofs.Ytolmicnapemljaa.Help Go.Proofs.YtolmicnapemljaaW.PrintWords
set_option linter.unusedVariables false
set_option linter.unusedSimpArgs false

def co (x : Int) : Bool := decide (0 ≤ x ∧ x ≤ 200)
theorem areCo_l0 (xs : List Int) (hx : xs.length ≤ 1000000000) : ∀ (d k i : Nat), i + d = xs.length → d < k → impl_areCoordinates.l0 k xs (xs.length : Int) (i : Int) = some ((xs.drop i).all co) := by
  intro d
  induction d with
  | zero =>
    intro k i hi hk
    obtain ⟨k, rfl⟩ : ∃ m, k = m + 1 := ⟨k - 1, by omega⟩
    simp only [impl_areCoordinates.l0]
    rw [if_neg (by omega), List.drop_of_length_le (by omega)]
    rfl
  | succ d ih =>
    intro k i hi hk
    obtain ⟨k, rfl⟩ : ∃ m, k = m + 1 := ⟨k - 1, by omega⟩
    have hlt : i < xs.length := by omega
    simp only [impl_areCoordinates.l0]
    rw [if_pos (by omega), if_pos (by omega), if_pos (by omega), within_eq, Option.bind_some, w_id (by omega) (by omega), show ((i : Int) + 1) = ((i + 1 : Nat) : Int) by omega, ih k (i + 1) (by omega) (by omega), List.drop_eq_getElem_cons hlt, List.all_cons, rd_nat xs i hlt]
    unfold co
    by_cases h : 0 ≤ xs[i] ∧ xs[i] ≤ 200 <;> simp [h]
theorem areCo (xs : List Int) (hx : xs.length ≤ 1000000000) (k : Nat) (hk : xs.length < k) : impl_areCoordinates.f k xs = some (xs.all co) := by
  unfold impl_areCoordinates.f
  have := areCo_l0 xs hx xs.length k 0 (by omega) hk
  rw [List.drop_zero] at this
  exact this
theorem co_true {x : Int} (h : co x = true) : 0 ≤ x ∧ x ≤ 200 := of_decide_eq_true h
theorem all_co {xs : List Int} (h : xs.all co = true) : ∀ x ∈ xs, 0 ≤ x ∧ x ≤ 200 := fun x hx => co_true (List.all_eq_true.1 h x hx)
end Go.Proofs.Ytolmicnapemljaa.L

namespace Go.Proofs.Ytolmicnapemljaa.L
open Go.RowKit Go.Proofs.Ytolmicnapemljaa.P Go.Proofs.Ytolmicnapemljaa.Help Go.Proofs.YtolmicnapemljaaW.PrintWords
set_option linter.unusedVariables false
set_option linter.unusedSimpArgs false

theorem l3Abs_eq {a : Int} (h0 : -9223372036854775807 ≤ a) (h1 : a ≤ 9223372036854775807) : spec_l3Abs.f a = some (a.natAbs : Int) := by
  unfold spec_l3Abs.f spec_l1Max.f
  rw [w_id (by omega) (by omega)]
  by_cases h : a > -a
  · rw [if_pos h]; simp only [Option.bind_some]; congr 1; omega
  · rw [if_neg h]; simp only [Option.bind_some]; congr 1; omega
theorem size_eq {a : Int} (h0 : -9223372036854775807 ≤ a) (h1 : a ≤ 9223372036854775807) : impl_size.f a = some (a.natAbs : Int) := by
  unfold impl_size.f
  rw [w_id (by omega) (by omega)]
  congr 1
  unfold mx
  split <;> omega
end Go.Proofs.Ytolmicnapemljaa.L

namespace Go.Proofs.Ytolmicnapemljaa.L
open Go.RowKit Go.Proofs.Ytolmicnapemljaa.P Go.Proofs.Ytolmicnapemljaa.Help Go.Proofs.YtolmicnapemljaaW.PrintWords
set_option linter.unusedVariables false
set_option linter.unusedSimpArgs false

/-- A side's coordinate. -/
def crd (x : List Int) (s : Int) : Int := rd x ((s.natAbs : Int) - 1)
def fairRow (x : List Int) : List Int → Bool
  | [a, b, c] => decide ((crd x a + crd x b + crd x c) % 2 = 0 ∧ crd x a ≤ crd x b + crd x c ∧ crd x b ≤ crd x a + crd x c ∧ crd x c ≤ crd x a + crd x b)
  | _ => false
def isF (t : List (List Int)) (x : List Int) : Bool := isT t && (decide ((x.length : Int) = edges t) && (x.all co && t.all (fairRow x)))
theorem crd_bd {x : List Int} (hx : x.all co = true) (s : Int) : 0 ≤ crd x s ∧ crd x s ≤ 200 := by
  unfold crd rd
  rw [List.getD_eq_getElem?_getD]
  cases h : x[((s.natAbs : Int) - 1).toNat]? with
  | none => simp
  | some y =>
    have := List.all_eq_true.1 hx y (List.mem_of_getElem? h)
    unfold co at this
    simpa using this
/-- Twice the arcs at a corner. -/
def twR (x : List Int) (a b c : Int) : Int := crd x a + crd x b - crd x c
theorem twice_eq {t : List (List Int)} {n : Int} (ok : TriOk t n) {x : List Int} (hx : (x.length : Int) = n) (hc : x.all co = true) {i : Nat} (hi : i < t.length) {a b c : Int} (e : t[i] = [a, b, c]) :
    spec_l15Twice.f t x (i : Int) 0 = some (twR x a b c) ∧ spec_l15Twice.f t x (i : Int) 1 = some (twR x b c a) ∧ spec_l15Twice.f t x (i : Int) 2 = some (twR x c a b) := by
  have n9 := ok.n9
  have hm : ∀ y ∈ [a, b, c], y ≠ 0 ∧ -n ≤ y ∧ y ≤ n := by
    intro y hy
    rw [← e] at hy
    exact ok.inr y (List.mem_flatten.2 ⟨_, List.getElem_mem hi, hy⟩)
  have ha := hm a (by simp)
  have hb := hm b (by simp)
  have hcc := hm c (by simp)
  have A := crd_bd hc a
  have B := crd_bd hc b
  have C := crd_bd hc c
  have e0 : rd [a, b, c] 0 = a := rfl
  have e1 : rd [a, b, c] 1 = b := rfl
  have e2 : rd [a, b, c] 2 = c := rfl
  have q : ∀ y : Int, y ≠ 0 ∧ -n ≤ y ∧ y ≤ n → 0 ≤ (y.natAbs : Int) - 1 ∧ (y.natAbs : Int) - 1 < x.length ∧ wrap64 ((y.natAbs : Int) - 1) = (y.natAbs : Int) - 1 := fun y hy => ⟨by omega, by omega, w_id (by omega) (by omega)⟩
  obtain ⟨qa1, qa2, qa3⟩ := q a ha
  obtain ⟨qb1, qb2, qb3⟩ := q b hb
  obtain ⟨qc1, qc2, qc3⟩ := q c hcc
  have sa := l3Abs_eq (a := a) (by omega) (by omega)
  have sb := l3Abs_eq (a := b) (by omega) (by omega)
  have sc := l3Abs_eq (a := c) (by omega) (by omega)
  have l3 : (([a, b, c] : List Int).length : Int) = 3 := rfl
  have w01 : Int.tmod (wrap64 (0 + 1)) 3 = 1 := by decide +kernel
  have w02 : Int.tmod (wrap64 (0 + 2)) 3 = 2 := by decide +kernel
  have w11 : Int.tmod (wrap64 (1 + 1)) 3 = 2 := by decide +kernel
  have w12 : Int.tmod (wrap64 (1 + 2)) 3 = 0 := by decide +kernel
  have w21 : Int.tmod (wrap64 (2 + 1)) 3 = 0 := by decide +kernel
  have w22 : Int.tmod (wrap64 (2 + 2)) 3 = 1 := by decide +kernel
  have i0 : (0 : Int) ≤ (i : Int) := by omega
  have i1 : (i : Int) < (t.length : Int) := by omega
  refine ⟨?_, ?_, ?_⟩
  · unfold spec_l15Twice.f
    rw [if_pos i0, if_pos i1, rdL_nat t i hi, e, l3, w01, w02, if_pos (by decide), if_pos (by decide), e0, sa, Option.bind_some, qa3, if_pos qa1, if_pos qa2, if_pos (by decide), if_pos (by decide), e1, sb, Option.bind_some, qb3, if_pos qb1, if_pos qb2, if_pos (by decide), if_pos (by decide), e2, sc, Option.bind_some, qc3, if_pos qc1, if_pos qc2]
    unfold twR
    unfold crd at A B C ⊢
    rw [w_id (a := rd x _ + rd x _) (by omega) (by omega), w_id (by omega) (by omega)]
  · unfold spec_l15Twice.f
    rw [if_pos i0, if_pos i1, rdL_nat t i hi, e, l3, w11, w12, if_pos (by decide), if_pos (by decide), e1, sb, Option.bind_some, qb3, if_pos qb1, if_pos qb2, if_pos (by decide), if_pos (by decide), e2, sc, Option.bind_some, qc3, if_pos qc1, if_pos qc2, if_pos (by decide), if_pos (by decide), e0, sa, Option.bind_some, qa3, if_pos qa1, if_pos qa2]
    unfold twR
    unfold crd at A B C ⊢
    rw [w_id (a := rd x _ + rd x _) (by omega) (by omega), w_id (by omega) (by omega)]
  · unfold spec_l15Twice.f
    rw [if_pos i0, if_pos i1, rdL_nat t i hi, e, l3, w21, w22, if_pos (by decide), if_pos (by decide), e2, sc, Option.bind_some, qc3, if_pos qc1, if_pos qc2, if_pos (by decide), if_pos (by decide), e0, sa, Option.bind_some, qa3, if_pos qa1, if_pos qa2, if_pos (by decide), if_pos (by decide), e1, sb, Option.bind_some, qb3, if_pos qb1, if_pos qb2]
    unfold twR
    unfold crd at A B C ⊢
    rw [w_id (a := rd x _ + rd x _) (by omega) (by omega), w_id (by omega) (by omega)]
theorem spec_fair_l2 {t : List (List Int)} {n : Int} (ok : TriOk t n) {x : List Int} (hx : (x.length : Int) = n) (hc : x.all co = true) {i : Nat} (hi : i < t.length) (k : Nat) :
    spec_IsFair.l2 (k + 4) t x (i : Int) 0 = if fairRow x t[i] = true then spec_IsFair.l1 k t x (wrap64 ((i : Int) + 1)) else some false := by
  obtain ⟨a, b, c, e, _⟩ := ok.i64 (List.getElem_mem hi)
  obtain ⟨h0, h1, h2⟩ := twice_eq ok hx hc hi e
  have A := crd_bd hc a
  have B := crd_bd hc b
  have C := crd_bd hc c
  have hf : fairRow x t[i] = decide ((crd x a + crd x b + crd x c) % 2 = 0 ∧ crd x a ≤ crd x b + crd x c ∧ crd x b ≤ crd x a + crd x c ∧ crd x c ≤ crd x a + crd x b) := by rw [e]; rfl
  rw [hf]
  unfold twR at h0 h1 h2
  have no : ∀ (P : Prop) [Decidable P] (α : Type) (u v : α), ¬ P → (if decide P = true then u else v) = v := fun P _ α u v h => by simp [h]
  simp only [spec_IsFair.l2]
  rw [if_pos (by decide), h0, Option.bind_some]
  by_cases c0 : crd x a + crd x b - crd x c < 0
  · rw [if_pos c0, no _ _ _ _ (by omega)]
  · rw [if_neg c0, Int.tmod_eq_emod_of_nonneg (by omega)]
    by_cases d0 : (crd x a + crd x b - crd x c) % 2 = 0
    · rw [if_pos d0, show wrap64 (0 + 1) = 1 by decide +kernel]
      rw [if_pos (by decide), h1, Option.bind_some]
      by_cases c1 : crd x b + crd x c - crd x a < 0
      · rw [if_pos c1, no _ _ _ _ (by omega)]
      · rw [if_neg c1, Int.tmod_eq_emod_of_nonneg (by omega), if_pos (by omega), show wrap64 (1 + 1) = 2 by decide +kernel]
        rw [if_pos (by decide), h2, Option.bind_some]
        by_cases c2 : crd x c + crd x a - crd x b < 0
        · rw [if_pos c2, no _ _ _ _ (by omega)]
        · rw [if_neg c2, Int.tmod_eq_emod_of_nonneg (by omega), if_pos (by omega), show wrap64 (2 + 1) = 3 by decide +kernel]
          rw [if_neg (by decide), if_pos (by rw [decide_eq_true_iff]; omega)]
    · rw [if_neg d0, no _ _ _ _ (by omega)]
theorem spec_fair_l1 {t : List (List Int)} {n : Int} (ok : TriOk t n) {x : List Int} (hx : (x.length : Int) = n) (hc : x.all co = true) : ∀ (d i k : Nat), i + d = t.length → 6 * d < k → spec_IsFair.l1 k t x (i : Int) = some ((t.drop i).all (fairRow x)) := by
  have hs := ok.short
  intro d
  induction d with
  | zero =>
    intro i k hi hk
    obtain ⟨k, rfl⟩ : ∃ m, k = m + 1 := ⟨k - 1, by omega⟩
    simp only [spec_IsFair.l1]
    rw [if_neg (by omega), List.drop_of_length_le (by omega)]
    rfl
  | succ d ih =>
    intro i k hi hk
    obtain ⟨k, rfl⟩ : ∃ m, k = m + 5 := ⟨k - 5, by omega⟩
    have hlt : i < t.length := by omega
    rw [show k + 5 = (k + 4) + 1 from rfl]
    simp only [spec_IsFair.l1]
    rw [if_pos (by omega), spec_fair_l2 ok hx hc hlt k, w_id (by omega) (by omega), show ((i : Int) + 1) = ((i + 1 : Nat) : Int) by omega, ih (i + 1) k (by omega) (by omega), List.drop_eq_getElem_cons hlt, List.all_cons]
    by_cases h : fairRow x t[i] = true
    · rw [if_pos h, h, Bool.true_and]
    · rw [if_neg h]
      simp at h
      rw [h, Bool.false_and]
theorem spec_fair_l0 {t : List (List Int)} {n : Int} (ok : TriOk t n) {x : List Int} (hx : (x.length : Int) = n) : ∀ (d i k : Nat), i + d = x.length → 100 + d < k → (x.take i).all co = true → spec_IsFair.l0 k t x (i : Int) = some (x.all co && t.all (fairRow x)) := by
  have hs := ok.short
  have n9 := ok.n9
  intro d
  induction d with
  | zero =>
    intro i k hi hk ht
    obtain ⟨k, rfl⟩ : ∃ m, k = m + 1 := ⟨k - 1, by omega⟩
    simp only [spec_IsFair.l0]
    rw [List.take_of_length_le (by omega)] at ht
    have := spec_fair_l1 ok hx ht t.length 0 k (by omega) (by omega)
    rw [List.drop_zero] at this
    rw [if_neg (by omega), ht, Bool.true_and]
    exact this
  | succ d ih =>
    intro i k hi hk ht
    obtain ⟨k, rfl⟩ : ∃ m, k = m + 1 := ⟨k - 1, by omega⟩
    have hlt : i < x.length := by omega
    simp only [spec_IsFair.l0]
    rw [if_pos (by omega), if_pos (by omega), rd_nat x i hlt, l1In_eq, Option.bind_some]
    by_cases h : 0 ≤ x[i] ∧ x[i] ≤ 200
    · rw [if_pos (by simpa using h), w_id (by omega) (by omega), show ((i : Int) + 1) = ((i + 1 : Nat) : Int) by omega]
      refine ih (i + 1) k (by omega) (by omega) ?_
      rw [List.take_succ_eq_append_getElem hlt, List.all_append, ht]
      simp [co, h]
    · rw [if_neg (by simpa using h)]
      have : x.all co = false := by
        rw [List.all_eq_false]
        exact ⟨x[i], List.getElem_mem hlt, by unfold co; simpa using h⟩
      rw [this, Bool.false_and]
theorem spec_fair (t : List (List Int)) (ht : t.length ≤ 1048576) (x : List Int) (k : Nat) (hk : 6000001 < k) : spec_IsFair.f k t x = some (isF t x) := by
  obtain ⟨k, rfl⟩ : ∃ m, k = m + 1 := ⟨k - 1, by omega⟩
  unfold spec_IsFair.f isF
  rw [spec_isT t ht _ (by omega), Option.bind_some]
  simp only [spec_IsFair.j0]
  rw [show wrap64 (Int.tdiv (wrap64 (3 * (t.length : Int))) 2) = edges t from rfl]
  by_cases h : isT t = true
  · have ok := isT_ok ht h
    have n9 := ok.n9
    rw [if_pos h, h]
    by_cases h2 : (x.length : Int) = edges t
    · have := spec_fair_l0 ok h2 x.length 0 k (by omega) (by omega) (by simp)
      rw [if_neg (by simpa using h2), decide_eq_true h2, Bool.true_and, Bool.true_and]
      exact this
    · rw [if_pos (by simpa using h2), decide_eq_false h2, Bool.false_and, Bool.and_false]
  · rw [if_neg h, if_pos trivial]
    simp at h
    rw [h, Bool.false_and]
theorem impl_fair_l0 {t : List (List Int)} {n : Int} (ok : TriOk t n) {x : List Int} (hx : (x.length : Int) = n) (hc : x.all co = true) : ∀ (d i k : Nat), i + d = t.length → d < k → impl_IsFair.l0 k x t (t.length : Int) (i : Int) = some ((t.drop i).all (fairRow x)) := by
  have hs := ok.short
  have n9 := ok.n9
  intro d
  induction d with
  | zero =>
    intro i k hi hk
    obtain ⟨k, rfl⟩ : ∃ m, k = m + 1 := ⟨k - 1, by omega⟩
    simp only [impl_IsFair.l0]
    rw [if_neg (by omega), List.drop_of_length_le (by omega)]
    rfl
  | succ d ih =>
    intro i k hi hk
    obtain ⟨k, rfl⟩ : ∃ m, k = m + 1 := ⟨k - 1, by omega⟩
    have hlt : i < t.length := by omega
    obtain ⟨a, b, c, e, ha, hb, hcc⟩ := ok.i64 (List.getElem_mem hlt)
    have A := crd_bd hc a
    have B := crd_bd hc b
    have C := crd_bd hc c
    have q : ∀ y : Int, y ≠ 0 ∧ -n ≤ y ∧ y ≤ n → 0 ≤ (y.natAbs : Int) - 1 ∧ (y.natAbs : Int) - 1 < x.length ∧ wrap64 ((y.natAbs : Int) - 1) = (y.natAbs : Int) - 1 := fun y hy => ⟨by omega, by omega, w_id (by omega) (by omega)⟩
    obtain ⟨qa1, qa2, qa3⟩ := q a ha
    obtain ⟨qb1, qb2, qb3⟩ := q b hb
    obtain ⟨qc1, qc2, qc3⟩ := q c hcc
    have sa := size_eq (a := a) (by omega) (by omega)
    have sb := size_eq (a := b) (by omega) (by omega)
    have sc := size_eq (a := c) (by omega) (by omega)
    have l3 : (([a, b, c] : List Int).length : Int) = 3 := rfl
    have e0 : rd [a, b, c] 0 = a := rfl
    have e1 : rd [a, b, c] 1 = b := rfl
    have e2 : rd [a, b, c] 2 = c := rfl
    have hf : fairRow x t[i] = decide ((crd x a + crd x b + crd x c) % 2 = 0 ∧ crd x a ≤ crd x b + crd x c ∧ crd x b ≤ crd x a + crd x c ∧ crd x c ≤ crd x a + crd x b) := by rw [e]; rfl
    simp only [impl_IsFair.l0]
    rw [List.drop_eq_getElem_cons hlt, List.all_cons, hf]
    rw [if_pos (by omega), if_pos (by omega), if_pos (by omega), rdL_nat t i hlt, e, l3, e0, e1, e2, if_pos (by decide), sa, Option.bind_some, qa3, if_pos qa1, if_pos qa2, if_pos (by decide), sb, Option.bind_some, qb3, if_pos qb1, if_pos qb2, if_pos (by decide), sc, Option.bind_some, qc3, if_pos qc1, if_pos qc2]
    rw [show rd x ((a.natAbs : Int) - 1) = crd x a from rfl, show rd x ((b.natAbs : Int) - 1) = crd x b from rfl, show rd x ((c.natAbs : Int) - 1) = crd x c from rfl]
    rw [w_id (a := crd x a + crd x b) (by omega) (by omega), w_id (a := crd x a + crd x b + crd x c) (by omega) (by omega), w_id (a := crd x b + crd x c) (by omega) (by omega), w_id (a := crd x a + crd x c) (by omega) (by omega), Int.tmod_eq_emod_of_nonneg (by omega), w_id (a := (i : Int) + 1) (by omega) (by omega), show ((i : Int) + 1) = ((i + 1 : Nat) : Int) by omega, ih (i + 1) k (by omega) (by omega)]
    have no : ∀ (P : Prop) [Decidable P] (u : Bool), ¬ P → (decide P && u) = false := fun P _ u h => by simp [h]
    by_cases c0 : (crd x a + crd x b + crd x c) % 2 = 0
    · rw [if_pos c0]
      by_cases c1 : crd x a > crd x b + crd x c
      · rw [if_pos c1, no _ _ (by omega)]
      · rw [if_neg c1]
        by_cases c2 : crd x b > crd x a + crd x c
        · rw [if_pos c2, no _ _ (by omega)]
        · rw [if_neg c2]
          by_cases c3 : crd x c > crd x a + crd x b
          · rw [if_pos c3, no _ _ (by omega)]
          · rw [if_neg c3, decide_eq_true (by omega), Bool.true_and]
    · rw [if_neg c0, no _ _ (by omega)]
theorem impl_fair (t : List (List Int)) (ht : t.length ≤ 1048576) (x : List Int) (k : Nat) (hk : 6000001 < k) : impl_IsFair.f k t x = some (isF t x) := by
  obtain ⟨k, rfl⟩ : ∃ m, k = m + 1 := ⟨k - 1, by omega⟩
  unfold impl_IsFair.f isF
  rw [impl_isT t ht _ (by omega), Option.bind_some]
  simp only [impl_IsFair.j0]
  rw [show wrap64 (Int.tdiv (wrap64 (3 * (t.length : Int))) 2) = edges t from rfl]
  by_cases h : isT t = true
  · have ok := isT_ok ht h
    have n9 := ok.n9
    have hs := ok.short
    rw [if_pos h, h]
    by_cases h2 : (x.length : Int) = edges t
    · rw [if_pos h2, decide_eq_true h2, Bool.true_and, Bool.true_and, areCo x (by omega) _ (by omega), Option.bind_some]
      by_cases h3 : x.all co = true
      · have := impl_fair_l0 ok h2 h3 t.length 0 k (by omega) (by omega)
        rw [List.drop_zero] at this
        rw [h3, if_neg (by decide), Bool.true_and]
        exact this
      · rw [Bool.eq_false_iff.mpr h3, if_pos (by decide), Bool.false_and]
    · rw [if_neg h2, if_pos trivial, decide_eq_false h2, Bool.false_and, Bool.and_false]
  · rw [if_neg h, if_pos trivial]
    simp at h
    rw [h, Bool.false_and]
end Go.Proofs.Ytolmicnapemljaa.L

namespace Go.Proofs.Ytolmicnapemljaa.L
open Go.RowKit Go.Proofs.Ytolmicnapemljaa.P Go.Proofs.Ytolmicnapemljaa.Help Go.Proofs.YtolmicnapemljaaW.PrintWords
set_option linter.unusedVariables false
set_option linter.unusedSimpArgs false

theorem isF_ok {t : List (List Int)} {x : List Int} (ht : t.length ≤ 1048576) (h : isF t x = true) : TriOk t (edges t) ∧ (x.length : Int) = edges t ∧ x.all co = true ∧ ∀ r ∈ t, fairRow x r = true := by
  unfold isF at h
  rw [Bool.and_eq_true, Bool.and_eq_true, Bool.and_eq_true, decide_eq_true_iff] at h
  exact ⟨isT_ok ht h.1, h.2.1, h.2.2.1, fun r hr => List.all_eq_true.1 h.2.2.2 r hr⟩
end Go.Proofs.Ytolmicnapemljaa.L

namespace Go.Proofs.Ytolmicnapemljaa.L
open Go.RowKit Go.Proofs.Ytolmicnapemljaa.P Go.Proofs.Ytolmicnapemljaa.Help Go.Proofs.YtolmicnapemljaaW.PrintWords
set_option linter.unusedVariables false
set_option linter.unusedSimpArgs false

theorem copyOf_f (r : List Int) (h : r.length ≤ 1048576) : impl_copyOf.f r = some r := by
  unfold impl_copyOf.f
  rw [Option.bind_some, if_pos (by simp; omega), List.nil_append]
end Go.Proofs.Ytolmicnapemljaa.L

namespace Go.Proofs.Ytolmicnapemljaa.L
open Go.RowKit Go.Proofs.Ytolmicnapemljaa.P Go.Proofs.Ytolmicnapemljaa.Help Go.Proofs.YtolmicnapemljaaW.PrintWords Go.Proofs.YtolmicnapemljaaW.PrintMore
set_option linter.unusedVariables false
set_option linter.unusedSimpArgs false

theorem turn3c (a b c : Int) (j : Nat) (hj : j < 3) : impl_turn.f [a, b, c] (j : Int) = some [[a, b, c].getD (j % 3) 0, [a, b, c].getD ((j + 1) % 3) 0, [a, b, c].getD ((j + 2) % 3) 0] := by
  match j, hj with
  | 0, _ => rfl
  | 1, _ => rfl
  | 2, _ => rfl
theorem turn_sidec {t : List (List Int)} {n : Int} (ok : TriOk t n) {i : Nat} (hi : i < t.length) (j : Nat) (hj : j < 3) : impl_turn.f (rd_L1 t (i : Int)) (j : Int) = some [sideOf t i j, sideOf t i (j + 1), sideOf t i (j + 2)] := by
  obtain ⟨a, b, c, e, _⟩ := ok.i64 (List.getElem_mem hi)
  rw [rdL_nat t i hi, e, turn3c a b c j hj]
  unfold sideOf
  rw [getD_at _ hi, e]
theorem canR_okc {t : List (List Int)} {e : Int} (ht : t.length ≤ 1048576) (h : canR t e = true) : TriOk t (edges t) ∧ 1 ≤ e ∧ e ≤ edges t := by
  unfold canR at h
  rw [Bool.and_eq_true] at h
  exact isE_bd ht h.1
def mxI (a b : Int) : Int := if a < b then b else a
def flipV (t : List (List Int)) (x : List Int) (e : Int) : Int :=
  mxI (crd x (sideOf t (sideR e t 0).1.toNat ((sideR e t 0).2.toNat + 1)) + crd x (sideOf t (sideR (-e) t 0).1.toNat ((sideR (-e) t 0).2.toNat + 1)))
    (crd x (sideOf t (sideR e t 0).1.toNat ((sideR e t 0).2.toNat + 2)) + crd x (sideOf t (sideR (-e) t 0).1.toNat ((sideR (-e) t 0).2.toNat + 2))) - rd x (e - 1)
def flipC (t : List (List Int)) (x : List Int) (e : Int) : List Int × Bool :=
  if canR t e = true ∧ isF t x = true then (if flipV t x e > 200 then ([], false) else (x.set (e - 1).toNat (flipV t x e), true)) else ([], false)
theorem num_at {t : List (List Int)} {n : Int} (ok : TriOk t n) {x : List Int} (hx : (x.length : Int) = n) {i : Nat} (hi : i < t.length) (j : Nat) : spec_l3Abs.f (sideOf t i j) = some ((sideOf t i j).natAbs : Int) ∧ impl_size.f (sideOf t i j) = some ((sideOf t i j).natAbs : Int) ∧ (0 ≤ ((sideOf t i j).natAbs : Int) - 1) ∧ (((sideOf t i j).natAbs : Int) - 1 < (x.length : Int)) ∧ wrap64 (((sideOf t i j).natAbs : Int) - 1) = ((sideOf t i j).natAbs : Int) - 1 := by
  have hs := sideOf_in ok hi j
  have n9 := ok.n9
  exact ⟨l3Abs_eq (by omega) (by omega), size_eq (by omega) (by omega), by omega, by omega, w_id (by omega) (by omega)⟩
theorem wj {j : Nat} (hj : j < 3) : wrap64 ((j : Int) + 1) = ((j + 1 : Nat) : Int) ∧ wrap64 ((j : Int) + 2) = ((j + 2 : Nat) : Int) := by
  refine ⟨?_, ?_⟩
  · rw [w_id (by omega) (by omega)]; omega
  · rw [w_id (by omega) (by omega)]; omega
theorem t3 (m : Nat) : 0 ≤ Int.tmod (m : Int) 3 ∧ Int.tmod (m : Int) 3 < 3 := by
  rw [Int.tmod_eq_emod_of_nonneg (by omega)]
  omega
theorem mxI_w {a b c d : Int} (ha : 0 ≤ a ∧ a ≤ 200) (hb : 0 ≤ b ∧ b ≤ 200) (hc : 0 ≤ c ∧ c ≤ 200) (hd : 0 ≤ d ∧ d ≤ 200) {e : Int} (he : 0 ≤ e ∧ e ≤ 200) : wrap64 (a + b) = a + b ∧ wrap64 (c + d) = c + d ∧ wrap64 (mxI (a + b) (c + d) - e) = mxI (a + b) (c + d) - e := by
  refine ⟨w_id (by omega) (by omega), w_id (by omega) (by omega), w_id ?_ ?_⟩
  · unfold mxI; split <;> omega
  · unfold mxI; split <;> omega
theorem l1Max_eq (a b : Int) : spec_l1Max.f a b = some (mxI a b) := by
  unfold spec_l1Max.f mxI
  by_cases h : a > b
  · rw [if_pos h, if_neg (by omega)]
  · rw [if_neg h]
    by_cases h2 : a < b
    · rw [if_pos h2]
    · rw [if_neg h2]
      congr 1
      omega
theorem at_e {x : List Int} (hc : x.all co = true) {e : Int} (h0 : 1 ≤ e) (h1 : e ≤ x.length) : 0 ≤ rd x (e - 1) ∧ rd x (e - 1) ≤ 200 := by
  have := crd_bd hc e
  unfold crd at this
  rwa [show ((e.natAbs : Int)) - 1 = e - 1 by omega] at this
set_option maxHeartbeats 2000000 in
theorem spec_flipC (t : List (List Int)) (ht : t.length ≤ 1048576) (x : List Int) (e : Int) (k : Nat) (hk : 6000003 < k) : spec_FlipCurve.f k t x e = some (flipC t x e) := by
  obtain ⟨k, rfl⟩ : ∃ m, k = m + 1 := ⟨k - 1, by omega⟩
  unfold spec_FlipCurve.f flipC
  rw [spec_can t ht e _ (by omega), Option.bind_some]
  by_cases h : canR t e = true
  · rw [if_pos h, spec_fair t ht x _ (by omega), Option.bind_some]
    by_cases hf : isF t x = true
    · obtain ⟨ok, h1, h2⟩ := canR_okc ht h
      obtain ⟨_, hx, hc, _⟩ := isF_ok ht hf
      have n9 := ok.n9
      obtain ⟨i, j, hi, hj, s1, s2⟩ := ok.side (x := e) (by omega) (by omega) (by omega)
      obtain ⟨o, a, ho, ha, s3, s4⟩ := ok.side (x := -e) (by omega) (by omega) (by omega)
      have l1 := ok.three hi
      have l2 := ok.three ho
      have q1 : ((rd_L1 t (i : Int)).length : Int) = 3 := by rw [rdL_nat t i hi, l1]; rfl
      have q2 : ((rd_L1 t (o : Int)).length : Int) = 3 := by rw [rdL_nat t o ho, l2]; rfl
      have x1 : (0 : Int) ≤ (i : Int) := by omega
      have x2 : (i : Int) < (t.length : Int) := by omega
      have x3 : (0 : Int) ≤ (o : Int) := by omega
      have x4 : (o : Int) < (t.length : Int) := by omega
      have y1 : (0 : Int) ≤ e - 1 := by omega
      have y2 : e - 1 < (x.length : Int) := by omega
      have y3 : ([] : List Int).length + x.length < 17592186044416 := by simp; omega
      have re := at_e hc h1 (by omega)
      have we : wrap64 (e - 1) = e - 1 := w_id (by omega) (by omega)
      have wn : wrap64 (-e) = -e := by clear we; exact w_id (by omega) (by omega)
      have f1 := find_f e t ht ok.row k (by clear we wn; omega)
      have f2 := find_f (-e) t ht ok.row k (by clear we wn; omega)
      obtain ⟨w1, w2⟩ := wj hj
      obtain ⟨w3, w4⟩ := wj ha
      obtain ⟨a1, _, b1, c1, d1⟩ := num_at ok hx hi (j + 1)
      obtain ⟨a2, _, b2, c2, d2⟩ := num_at ok hx hi (j + 2)
      obtain ⟨a3, _, b3, c3, d3⟩ := num_at ok hx ho (a + 1)
      obtain ⟨a4, _, b4, c4, d4⟩ := num_at ok hx ho (a + 2)
      have bd := fun s => crd_bd hc s
      obtain ⟨m1, m2, m3⟩ := mxI_w (bd (sideOf t i (j + 1))) (bd (sideOf t o (a + 1))) (bd (sideOf t i (j + 2))) (bd (sideOf t o (a + 2))) re
      unfold crd at m1 m2 m3
      simp only [spec_FlipCurve.j0]
      rw [hf, if_neg (by decide), f1, Option.bind_some, wn, f2, Option.bind_some, s1, s3]
      dsimp only
      rw [w1, w2, w3, w4, q1, q2, if_pos x1, if_pos x2, if_pos (t3 (j + 1)).1, if_pos (t3 (j + 1)).2, rd_side ok hi, a1, Option.bind_some, d1, if_pos b1, if_pos c1, if_pos x3, if_pos x4, if_pos (t3 (a + 1)).1, if_pos (t3 (a + 1)).2, rd_side ok ho, a3, Option.bind_some, d3, if_pos b3, if_pos c3]
      rw [if_pos (t3 (j + 2)).1, if_pos (t3 (j + 2)).2, rd_side ok hi, a2, Option.bind_some, d2, if_pos b2, if_pos c2, if_pos (t3 (a + 2)).1, if_pos (t3 (a + 2)).2, rd_side ok ho, a4, Option.bind_some, d4, if_pos b4, if_pos c4, Option.bind_some, if_pos y3, Option.bind_some, List.nil_append, m1, m2, l1Max_eq, Option.bind_some, we, if_pos y1, if_pos y2, if_pos y2, m3]
      rw [if_pos (show canR t e = true ∧ true = true from ⟨h, rfl⟩)]
      have ev : flipV t x e = mxI (rd x (((sideOf t i (j + 1)).natAbs : Int) - 1) + rd x (((sideOf t o (a + 1)).natAbs : Int) - 1)) (rd x (((sideOf t i (j + 2)).natAbs : Int) - 1) + rd x (((sideOf t o (a + 2)).natAbs : Int) - 1)) - rd x (e - 1) := by
        unfold flipV crd
        rw [s1, s3]
        rfl
      rw [← ev]
      split <;> rfl
    · have hf' : isF t x = false := by simpa using hf
      simp only [spec_FlipCurve.j0]
      rw [hf', if_pos (show (!false) = true from rfl), if_neg (fun h => absurd h.2 (by decide))]
  · simp only [spec_FlipCurve.j0]
    rw [if_neg h, if_pos trivial, if_neg (fun h' => h h'.1)]
set_option maxHeartbeats 2000000 in
theorem impl_flipC (t : List (List Int)) (ht : t.length ≤ 1048576) (hr : ∀ r ∈ t, r.length ≤ 1048576) (x : List Int) (hxl : x.length ≤ 1048576) (e : Int) (k : Nat) (hk : 6000003 < k) : impl_FlipCurve.f k t x e = some (flipC t x e) := by
  unfold impl_FlipCurve.f flipC
  rw [impl_can t ht hr e _ (by omega), Option.bind_some]
  by_cases h : canR t e = true
  · rw [if_pos h, impl_fair t ht x _ (by omega), Option.bind_some]
    by_cases hf : isF t x = true
    · obtain ⟨ok, h1, h2⟩ := canR_okc ht h
      obtain ⟨_, hx, hc, _⟩ := isF_ok ht hf
      have n9 := ok.n9
      obtain ⟨i, j, hi, hj, s1, s2⟩ := ok.side (x := e) (by omega) (by omega) (by omega)
      obtain ⟨o, a, ho, ha, s3, s4⟩ := ok.side (x := -e) (by omega) (by omega) (by omega)
      have x1 : (0 : Int) ≤ (i : Int) := by omega
      have x2 : (i : Int) < (t.length : Int) := by omega
      have x3 : (0 : Int) ≤ (o : Int) := by omega
      have x4 : (o : Int) < (t.length : Int) := by omega
      have y1 : (0 : Int) ≤ e - 1 := by omega
      have y2 : e - 1 < (x.length : Int) := by omega
      have re := at_e hc h1 (by omega)
      have we : wrap64 (e - 1) = e - 1 := w_id (by omega) (by omega)
      have wn : wrap64 (-e) = -e := by clear we; exact w_id (by omega) (by omega)
      have f1 := sideAt_f e t ht hr k (by clear we wn; omega)
      have f2 := sideAt_f (-e) t ht hr k (by clear we wn; omega)
      obtain ⟨_, a1, b1, c1, d1⟩ := num_at ok hx hi (j + 1)
      obtain ⟨_, a2, b2, c2, d2⟩ := num_at ok hx hi (j + 2)
      obtain ⟨_, a3, b3, c3, d3⟩ := num_at ok hx ho (a + 1)
      obtain ⟨_, a4, b4, c4, d4⟩ := num_at ok hx ho (a + 2)
      have bd := fun s => crd_bd hc s
      obtain ⟨m1, m2, m3⟩ := mxI_w (bd (sideOf t i (j + 1))) (bd (sideOf t o (a + 1))) (bd (sideOf t i (j + 2))) (bd (sideOf t o (a + 2))) re
      unfold crd at m1 m2 m3
      have l3 : ∀ a b c : Int, 2 < (([a, b, c] : List Int).length : Int) := fun a b c => by
        show (2 : Int) < ((3 : Nat) : Int)
        decide
      have r1 : ∀ a b c : Int, rd [a, b, c] 1 = b := fun a b c => rfl
      have r2 : ∀ a b c : Int, rd [a, b, c] 2 = c := fun a b c => rfl
      have fn : ∀ s : Int, impl_size.f s = some (s.natAbs : Int) → 0 ≤ (s.natAbs : Int) - 1 → (s.natAbs : Int) - 1 < (x.length : Int) → wrap64 ((s.natAbs : Int) - 1) = (s.natAbs : Int) - 1 → flipNum.f x s = some (rd x ((s.natAbs : Int) - 1)) := by
        intro s q1 q2 q3 q4
        unfold flipNum.f
        rw [q1, Option.bind_some, q4, if_pos q2, if_pos q3]
      rw [hf, if_pos rfl, f1, Option.bind_some, wn, f2, Option.bind_some, s1, s3]
      dsimp only
      rw [if_pos x1, if_pos x2, if_pos x3, if_pos x4, turn_sidec ok hi j hj, Option.bind_some, turn_sidec ok ho a ha, Option.bind_some, copyOf_f x hxl, Option.bind_some]
      unfold impl_FlipCurve.g
      rw [if_pos (l3 _ _ _), if_pos (l3 _ _ _), r1, r1, r2, r2, fn _ a1 b1 c1 d1, Option.bind_some, fn _ a3 b3 c3 d3, Option.bind_some, fn _ a2 b2 c2 d2, Option.bind_some, fn _ a4 b4 c4 d4, Option.bind_some, we, if_pos y1, if_pos y2, if_pos y2, m1, m2]
      rw [show ∀ p q : Int, mx p q = mxI p q from fun _ _ => rfl, m3]
      rw [if_pos (show canR t e = true ∧ true = true from ⟨h, rfl⟩)]
      have ev : flipV t x e = mxI (rd x (((sideOf t i (j + 1)).natAbs : Int) - 1) + rd x (((sideOf t o (a + 1)).natAbs : Int) - 1)) (rd x (((sideOf t i (j + 2)).natAbs : Int) - 1) + rd x (((sideOf t o (a + 2)).natAbs : Int) - 1)) - rd x (e - 1) := by
        unfold flipV crd
        rw [s1, s3]
        rfl
      rw [← ev]
      split <;> rfl
    · have hf' : isF t x = false := by simpa using hf
      rw [hf', if_neg (by decide), if_neg (fun h => absurd h.2 (by decide))]
  · rw [if_neg h, if_neg (fun h' => h h'.1)]
theorem flipC_len (t : List (List Int)) (ht : t.length ≤ 1048576) (x : List Int) (e : Int) : (flipC t x e).1.length ≤ 9 := by
  unfold flipC
  by_cases h : canR t e = true ∧ isF t x = true
  · rw [if_pos h]
    obtain ⟨ok, hx, _⟩ := isF_ok ht h.2
    have := ok.n9
    split
    · simp
    · show (x.set _ _).length ≤ 9
      rw [List.length_set]
      omega
  · rw [if_neg h]
    simp
end Go.Proofs.Ytolmicnapemljaa.L

namespace Go.Proofs.Ytolmicnapemljaa.L
open Go.RowKit Go.Proofs.Ytolmicnapemljaa.P Go.Proofs.Ytolmicnapemljaa.Help Go.Proofs.YtolmicnapemljaaW.PrintWords
set_option linter.unusedVariables false
set_option linter.unusedSimpArgs false

def sumL : List Int → Int
  | [] => 0
  | x :: xs => x + sumL xs
theorem spec_sum_l0 (xs : List Int) (hx : xs.length ≤ 1048576) : ∀ (d k i : Nat) (n : Int), i + d = xs.length → d < k → 0 ≤ n → n ≤ 200 * i → spec_CrossSum.l0 k xs n (i : Int) = some (if (xs.drop i).all co = true then n + sumL (xs.drop i) else -1) := by
  intro d
  induction d with
  | zero =>
    intro k i n hi hk h0 h1
    obtain ⟨k, rfl⟩ : ∃ m, k = m + 1 := ⟨k - 1, by omega⟩
    simp only [spec_CrossSum.l0]
    rw [if_neg (by omega), List.drop_of_length_le (by omega)]
    simp [sumL]
  | succ d ih =>
    intro k i n hi hk h0 h1
    obtain ⟨k, rfl⟩ : ∃ m, k = m + 1 := ⟨k - 1, by omega⟩
    have hlt : i < xs.length := by omega
    simp only [spec_CrossSum.l0]
    rw [if_pos (by omega), if_pos (by omega), l1In_eq, Option.bind_some, rd_nat xs i hlt, List.drop_eq_getElem_cons hlt, List.all_cons, sumL]
    by_cases h : 0 ≤ xs[i] ∧ xs[i] ≤ 200
    · have hc : co xs[i] = true := decide_eq_true h
      rw [if_pos (decide_eq_true h), w_id (a := n + xs[i]) (by omega) (by omega), w_id (by omega) (by omega), show ((i : Int) + 1) = ((i + 1 : Nat) : Int) by omega, ih k (i + 1) _ (by omega) (by omega) (by omega) (by omega), hc, Bool.true_and]
      split
      · congr 1; omega
      · rfl
    · have hc : co xs[i] = false := decide_eq_false h
      rw [if_neg (by simpa using h), hc, Bool.false_and, if_neg (by decide)]
theorem impl_sum_l0 (xs : List Int) (hx : xs.length ≤ 1048576) (hc : xs.all co = true) : ∀ (d k i : Nat) (n : Int), i + d = xs.length → d < k → 0 ≤ n → n ≤ 200 * i → impl_CrossSum.l0 k n xs (xs.length : Int) (i : Int) = some (n + sumL (xs.drop i)) := by
  intro d
  induction d with
  | zero =>
    intro k i n hi hk h0 h1
    obtain ⟨k, rfl⟩ : ∃ m, k = m + 1 := ⟨k - 1, by omega⟩
    simp only [impl_CrossSum.l0]
    rw [if_neg (by omega), List.drop_of_length_le (by omega)]
    simp [sumL]
  | succ d ih =>
    intro k i n hi hk h0 h1
    obtain ⟨k, rfl⟩ : ∃ m, k = m + 1 := ⟨k - 1, by omega⟩
    have hlt : i < xs.length := by omega
    have h := all_co hc xs[i] (List.getElem_mem hlt)
    simp only [impl_CrossSum.l0]
    rw [if_pos (by omega), if_pos (by omega), if_pos (by omega), rd_nat xs i hlt, w_id (a := n + xs[i]) (by omega) (by omega), w_id (by omega) (by omega), show ((i : Int) + 1) = ((i + 1 : Nat) : Int) by omega, ih k (i + 1) _ (by omega) (by omega) (by omega) (by omega), List.drop_eq_getElem_cons hlt, sumL]
    congr 1
    omega
def sumR (xs : List Int) : Int := if xs.all co = true then sumL xs else -1
theorem spec_sum (xs : List Int) (hx : xs.length ≤ 1048576) (k : Nat) (hk : 1048576 < k) : spec_CrossSum.f k xs = some (sumR xs) := by
  unfold spec_CrossSum.f sumR
  have := spec_sum_l0 xs hx xs.length k 0 0 (by omega) (by omega) (by omega) (by omega)
  rw [List.drop_zero, Int.zero_add] at this
  exact this
theorem impl_sum (xs : List Int) (hx : xs.length ≤ 1048576) (k : Nat) (hk : 1048576 < k) : impl_CrossSum.f k xs = some (sumR xs) := by
  unfold impl_CrossSum.f sumR
  rw [areCo xs (by omega) k (by omega), Option.bind_some]
  by_cases h : xs.all co = true
  · rw [if_pos h, if_pos h]
    have := impl_sum_l0 xs hx h xs.length k 0 0 (by omega) (by omega) (by omega) (by omega)
    rw [List.drop_zero, Int.zero_add] at this
    exact this
  · rw [if_neg h, if_neg h]
end Go.Proofs.Ytolmicnapemljaa.L

namespace Go.Proofs.Ytolmicnapemljaa.L
open Go.RowKit Go.Proofs.Ytolmicnapemljaa.P Go.Proofs.Ytolmicnapemljaa.Help Go.Proofs.YtolmicnapemljaaW.PrintWords
set_option linter.unusedVariables false
set_option linter.unusedSimpArgs false

def goB (t : List (List Int)) (x : List Int) : Nat → Int → Int → Int → Int
  | 0, _, best, _ => best
  | d + 1, e, best, least => if (flipC t x e).2 = true then (if sumR (flipC t x e).1 < least then goB t x d (e + 1) e (sumR (flipC t x e).1) else goB t x d (e + 1) best least) else goB t x d (e + 1) best least
theorem spec_best_l0 (t : List (List Int)) (ht : t.length ≤ 1048576) (x : List Int) (hx : x.length ≤ 1048576) : ∀ (d k : Nat) (e best least : Int), e + d = (x.length : Int) + 1 → 1 ≤ e → 6000100 + d < k → spec_BestFlip.l0 k t x least best e = some (goB t x d e best least) := by
  intro d
  induction d with
  | zero =>
    intro k e best least he h1 hk
    obtain ⟨k, rfl⟩ : ∃ m, k = m + 1 := ⟨k - 1, by omega⟩
    simp only [spec_BestFlip.l0]
    rw [if_neg (by omega)]
    rfl
  | succ d ih =>
    intro k e best least he h1 hk
    obtain ⟨k, rfl⟩ : ∃ m, k = m + 1 := ⟨k - 1, by omega⟩
    have hl := flipC_len t ht x e
    have s := spec_sum (flipC t x e).1 (by omega) k (by omega)
    simp only [spec_BestFlip.l0]
    rw [if_pos (by omega), spec_flipC t ht x e k (by omega), Option.bind_some, w_id (a := e + 1) (by omega) (by omega), s, Option.bind_some, Option.bind_some, goB]
    by_cases c : (flipC t x e).2 = true
    · rw [if_pos c, if_pos c]
      by_cases c2 : sumR (flipC t x e).1 < least
      · rw [if_pos c2, if_pos c2, ih k _ _ _ (by omega) (by omega) (by omega)]
      · rw [if_neg c2, if_neg c2, ih k _ _ _ (by omega) (by omega) (by omega)]
    · rw [if_neg c, if_neg c, ih k _ _ _ (by omega) (by omega) (by omega)]
theorem impl_best_l0 (t : List (List Int)) (ht : t.length ≤ 1048576) (hr : ∀ r ∈ t, r.length ≤ 1048576) (x : List Int) (hx : x.length ≤ 1048576) : ∀ (d k : Nat) (e best least : Int), e + d = (x.length : Int) + 1 → 1 ≤ e → 6000100 + d < k → impl_BestFlip.l0 k t x best least e = some (goB t x d e best least) := by
  intro d
  induction d with
  | zero =>
    intro k e best least he h1 hk
    obtain ⟨k, rfl⟩ : ∃ m, k = m + 1 := ⟨k - 1, by omega⟩
    simp only [impl_BestFlip.l0]
    rw [if_neg (by omega)]
    rfl
  | succ d ih =>
    intro k e best least he h1 hk
    obtain ⟨k, rfl⟩ : ∃ m, k = m + 1 := ⟨k - 1, by omega⟩
    have hl := flipC_len t ht x e
    have s := impl_sum (flipC t x e).1 (by omega) k (by omega)
    simp only [impl_BestFlip.l0]
    rw [if_pos (by omega), impl_flipC t ht hr x hx e k (by omega), Option.bind_some, w_id (a := e + 1) (by omega) (by omega), s, Option.bind_some, Option.bind_some, goB]
    by_cases c : (flipC t x e).2 = true
    · rw [if_pos c, if_pos c]
      by_cases c2 : sumR (flipC t x e).1 < least
      · rw [if_pos c2, if_pos c2, ih k _ _ _ (by omega) (by omega) (by omega)]
      · rw [if_neg c2, if_neg c2, ih k _ _ _ (by omega) (by omega) (by omega)]
    · rw [if_neg c, if_neg c, ih k _ _ _ (by omega) (by omega) (by omega)]
def bestR (t : List (List Int)) (x : List Int) : Int := if isF t x = true then goB t x x.length 1 0 (sumR x) else 0
theorem spec_best (t : List (List Int)) (ht : t.length ≤ 1048576) (x : List Int) (hx : x.length ≤ 1048576) (k : Nat) (hk : 8000000 < k) : spec_BestFlip.f k t x = some (bestR t x) := by
  unfold spec_BestFlip.f bestR
  rw [spec_fair t ht x k (by omega), Option.bind_some]
  by_cases h : isF t x = true
  · rw [if_pos h, if_pos h, spec_sum x hx k (by omega), Option.bind_some]
    exact spec_best_l0 t ht x hx x.length k 1 0 _ (by omega) (by omega) (by omega)
  · rw [if_neg h, if_neg h]
theorem impl_best (t : List (List Int)) (ht : t.length ≤ 1048576) (hr : ∀ r ∈ t, r.length ≤ 1048576) (x : List Int) (hx : x.length ≤ 1048576) (k : Nat) (hk : 8000000 < k) : impl_BestFlip.f k t x = some (bestR t x) := by
  unfold impl_BestFlip.f bestR
  rw [impl_fair t ht x k (by omega), Option.bind_some]
  by_cases h : isF t x = true
  · rw [if_pos h, if_pos h, impl_sum x hx k (by omega), Option.bind_some]
    exact impl_best_l0 t ht hr x hx x.length k 1 0 _ (by omega) (by omega) (by omega)
  · rw [if_neg h, if_neg h]
end Go.Proofs.Ytolmicnapemljaa.L

namespace Go.Proofs.Ytolmicnapemljaa.L
open Go.RowKit Go.Proofs.Ytolmicnapemljaa.P Go.Proofs.Ytolmicnapemljaa.Help Go.Proofs.YtolmicnapemljaaW.PrintWords
set_option linter.unusedVariables false
set_option linter.unusedSimpArgs false

theorem szIntS_f (r : List Int) (hr : r.length ≤ 9223372036854775807) (a : Int) (h0 : 0 ≤ a) (h1 : a ≤ 1048576) : laws_szIntS.f r a = some (if a - r.length < 0 then -1 else a - r.length) := by
  unfold laws_szIntS.f
  rw [w_id (by omega) (by omega)]
  split <;> rfl
theorem szIntSS_l0 (xs : List (List Int)) (hx : xs.length ≤ 1048576) (hr : ∀ r ∈ xs, r.length ≤ 9223372036854775807) : ∀ (d k i : Nat) (a : Int), i + d = xs.length → d < k → 0 ≤ a → a ≤ 1048576 → ∃ t, laws_szIntSS.l0 k xs a (i : Int) = some t ∧ (0 ≤ t → (∀ r ∈ xs.drop i, r.length ≤ 1048576) ∧ t + tot (xs.drop i) = a) := by
  intro d
  induction d with
  | zero =>
    intro k i a hi hk h0 h1
    obtain ⟨k, rfl⟩ : ∃ m, k = m + 1 := ⟨k - 1, by omega⟩
    simp only [laws_szIntSS.l0]
    rw [if_neg (by omega), List.drop_of_length_le (by omega)]
    exact ⟨a, rfl, fun _ => ⟨fun r hr => by simp at hr, by simp [tot]⟩⟩
  | succ d ih =>
    intro k i a hi hk h0 h1
    obtain ⟨k, rfl⟩ : ∃ m, k = m + 1 := ⟨k - 1, by omega⟩
    have hlt : i < xs.length := by omega
    simp only [laws_szIntSS.l0]
    rw [if_pos (by omega), if_pos (by omega), rdL_nat xs i hlt, szIntS_f _ (hr _ (List.getElem_mem hlt)) a h0 h1, Option.bind_some]
    by_cases h : a - (xs[i].length : Int) < 0
    · rw [if_pos h, if_pos (by decide)]
      exact ⟨-1, rfl, fun h => absurd h (by decide)⟩
    · rw [if_neg h, if_neg h, w_id (by omega) (by omega), show ((i : Int) + 1) = ((i + 1 : Nat) : Int) by omega]
      obtain ⟨t, ht, hd⟩ := ih k (i + 1) (a - xs[i].length) (by omega) (by omega) (by omega) (by omega)
      refine ⟨t, ht, fun h2 => ⟨fun r hr => ?_, ?_⟩⟩
      · rw [List.drop_eq_getElem_cons hlt] at hr
        rcases List.mem_cons.1 hr with rfl | hr
        · omega
        · exact (hd h2).1 r hr
      · rw [List.drop_eq_getElem_cons hlt, tot]
        have := (hd h2).2
        omega
theorem szIntSS_f (xs : List (List Int)) (hx : xs.length ≤ 9223372036854775807) (hr : ∀ r ∈ xs, r.length ≤ 9223372036854775807) (a : Int) (h0 : 0 ≤ a) (h1 : a ≤ 1048576) (k : Nat) (hk : 1048577 < k) : ∃ t, laws_szIntSS.f k xs a = some t ∧ (0 ≤ t → xs.length ≤ 1048576 ∧ (∀ r ∈ xs, r.length ≤ 1048576) ∧ tot xs ≤ 1048576) := by
  unfold laws_szIntSS.f
  rw [w_id (by omega) (by omega)]
  by_cases h : a - (xs.length : Int) < 0
  · rw [if_pos h]
    exact ⟨-1, rfl, fun h => absurd h (by decide)⟩
  · rw [if_neg h]
    obtain ⟨t, ht, hd⟩ := szIntSS_l0 xs (by omega) hr xs.length k 0 (a - xs.length) (by omega) (by omega) (by omega) (by omega)
    refine ⟨t, ht, fun h2 => ⟨by omega, ?_⟩⟩
    have := hd h2
    rw [List.drop_zero] at this
    exact ⟨this.1, by omega⟩
theorem toIntSS_l0 (xs : List (List Int)) (hx : xs.length ≤ 1048576) (hr : ∀ r ∈ xs, r.length ≤ 1048576) : ∀ (d k i : Nat) (ys : List (List Int)), i + d = xs.length → d + 1048577 < k → ys.length = xs.length → ys.take i = xs.take i → laws_toIntSS.l0 k xs ys (i : Int) = some xs := by
  intro d
  induction d with
  | zero =>
    intro k i ys hi hk hl ht
    obtain ⟨k, rfl⟩ : ∃ m, k = m + 1 := ⟨k - 1, by omega⟩
    simp only [laws_toIntSS.l0]
    rw [if_neg (by omega)]
    rw [List.take_of_length_le (by omega), List.take_of_length_le (by omega)] at ht
    rw [ht]
  | succ d ih =>
    intro k i ys hi hk hl ht
    obtain ⟨k, rfl⟩ : ∃ m, k = m + 1 := ⟨k - 1, by omega⟩
    have hlt : i < xs.length := by omega
    simp only [laws_toIntSS.l0]
    rw [if_pos (by omega), if_pos (by omega), rdL_nat xs i hlt, toIntS_f _ (hr _ (List.getElem_mem hlt)) k (by omega), Option.bind_some, if_pos (by omega), w_id (by omega) (by omega), show ((i : Int) + 1) = ((i + 1 : Nat) : Int) by omega, Int.toNat_natCast]
    refine ih k (i + 1) _ (by omega) (by omega) (by rw [List.length_set]; exact hl) ?_
    rw [List.take_succ_eq_append_getElem (by rw [List.length_set]; omega), List.take_succ_eq_append_getElem (by omega), List.getElem_set_self, List.take_set_of_le (by omega), ht]
theorem toIntSS_f (xs : List (List Int)) (hx : xs.length ≤ 1048576) (hr : ∀ r ∈ xs, r.length ≤ 1048576) (k : Nat) (hk : 3000000 < k) : laws_toIntSS.f k xs = some xs := by
  unfold laws_toIntSS.f
  rw [if_pos (by omega), if_pos (by omega), Int.toNat_natCast]
  exact toIntSS_l0 xs (by omega) hr xs.length k 0 _ (by omega) (by omega) (by simp) (by simp)
theorem eqIntSS_l0 (xs : List (List Int)) (hx : xs.length ≤ 1048576) (hr : ∀ r ∈ xs, r.length ≤ 1048576) : ∀ (d k i : Nat), i + d = xs.length → d + 1048577 < k → laws_eqIntSS.l0 k xs xs (i : Int) = some true := by
  intro d
  induction d with
  | zero =>
    intro k i hi hk
    obtain ⟨k, rfl⟩ : ∃ m, k = m + 1 := ⟨k - 1, by omega⟩
    simp only [laws_eqIntSS.l0]
    rw [if_neg (by omega)]
  | succ d ih =>
    intro k i hi hk
    obtain ⟨k, rfl⟩ : ∃ m, k = m + 1 := ⟨k - 1, by omega⟩
    have hlt : i < xs.length := by omega
    simp only [laws_eqIntSS.l0]
    rw [if_pos (by omega), if_pos (by omega), if_pos (by omega), rdL_nat xs i hlt, eqIntS_self _ (hr _ (List.getElem_mem hlt)) k (by omega), Option.bind_some]
    rw [if_pos rfl, w_id (by omega) (by omega), show ((i : Int) + 1) = ((i + 1 : Nat) : Int) by omega, ih k (i + 1) (by omega) (by omega)]
theorem eqIntSS_self (xs : List (List Int)) (hx : xs.length ≤ 1048576) (hr : ∀ r ∈ xs, r.length ≤ 1048576) (k : Nat) (hk : 3000000 < k) : laws_eqIntSS.f k xs xs = some true := by
  unfold laws_eqIntSS.f
  rw [if_pos rfl]
  exact eqIntSS_l0 xs (by omega) hr xs.length k 0 (by omega) (by omega)
end Go.Proofs.Ytolmicnapemljaa.L

namespace Go.Proofs.Ytolmicnapemljaa.L
open Go.RowKit Go.Proofs.Ytolmicnapemljaa.P Go.Proofs.Ytolmicnapemljaa.Help Go.Proofs.YtolmicnapemljaaW.PrintWords
set_option linter.unusedVariables false
set_option linter.unusedSimpArgs false

theorem copyRows_l0 (xs : List (List Int)) (hx : xs.length ≤ 1048576) (hr : ∀ r ∈ xs, r.length ≤ 1048576) : ∀ (d k i : Nat), i + d = xs.length → d < k → impl_copyRows.l0 k (xs.take i) xs (xs.length : Int) (i : Int) = some xs := by
  intro d
  induction d with
  | zero =>
    intro k i hi hk
    obtain ⟨k, rfl⟩ : ∃ m, k = m + 1 := ⟨k - 1, by omega⟩
    simp only [impl_copyRows.l0]
    rw [if_neg (by omega), List.take_of_length_le (by omega)]
  | succ d ih =>
    intro k i hi hk
    obtain ⟨k, rfl⟩ : ∃ m, k = m + 1 := ⟨k - 1, by omega⟩
    have hlt : i < xs.length := by omega
    simp only [impl_copyRows.l0]
    rw [if_pos (by omega), if_pos (by omega), if_pos (by omega), rdL_nat xs i hlt, copyOf_f _ (hr _ (List.getElem_mem hlt)), Option.bind_some, if_pos (by rw [List.length_take]; omega), w_id (by omega) (by omega), show ((i : Int) + 1) = ((i + 1 : Nat) : Int) by omega, ← List.take_succ_eq_append_getElem hlt, ih k (i + 1) (by omega) (by omega)]
theorem copyRows_f (xs : List (List Int)) (hx : xs.length ≤ 1048576) (hr : ∀ r ∈ xs, r.length ≤ 1048576) (k : Nat) (hk : 1048577 < k) : impl_copyRows.f k xs = some xs := by
  unfold impl_copyRows.f
  have := copyRows_l0 xs hx hr xs.length k 0 (by omega) (by omega)
  rw [List.take_zero] at this
  exact this
theorem l5Copy_l0 (xs : List (List Int)) (hx : xs.length ≤ 1048576) (hr : ∀ r ∈ xs, r.length ≤ 1048576) : ∀ (d k i : Nat), i + d = xs.length → d < k → spec_l5Copy.l0 k xs (xs.take i) (i : Int) = some xs := by
  intro d
  induction d with
  | zero =>
    intro k i hi hk
    obtain ⟨k, rfl⟩ : ∃ m, k = m + 1 := ⟨k - 1, by omega⟩
    simp only [spec_l5Copy.l0]
    rw [if_neg (by omega), List.take_of_length_le (by omega)]
  | succ d ih =>
    intro k i hi hk
    obtain ⟨k, rfl⟩ : ∃ m, k = m + 1 := ⟨k - 1, by omega⟩
    have hlt : i < xs.length := by omega
    have hl := hr _ (List.getElem_mem hlt)
    simp only [spec_l5Copy.l0]
    rw [if_pos (by omega), Option.bind_some, if_pos (by omega), rdL_nat xs i hlt, if_pos (by simp; omega), if_pos (by rw [List.length_take]; omega), List.nil_append, w_id (by omega) (by omega), show ((i : Int) + 1) = ((i + 1 : Nat) : Int) by omega, ← List.take_succ_eq_append_getElem hlt, ih k (i + 1) (by omega) (by omega)]
theorem l5Copy_f (xs : List (List Int)) (hx : xs.length ≤ 1048576) (hr : ∀ r ∈ xs, r.length ≤ 1048576) (k : Nat) (hk : 1048577 < k) : spec_l5Copy.f k xs = some xs := by
  unfold spec_l5Copy.f
  have := l5Copy_l0 xs hx hr xs.length k 0 (by omega) (by omega)
  rw [List.take_zero] at this
  exact this
end Go.Proofs.Ytolmicnapemljaa.L

namespace Go.Proofs.Ytolmicnapemljaa.L
open Go.RowKit Go.Proofs.Ytolmicnapemljaa.P Go.Proofs.Ytolmicnapemljaa.Help Go.Proofs.YtolmicnapemljaaW.PrintWords
set_option linter.unusedVariables false
set_option linter.unusedSimpArgs false

theorem turn3 (a b c : Int) (j : Nat) (hj : j < 3) : impl_turn.f [a, b, c] (j : Int) = some [[a, b, c].getD (j % 3) 0, [a, b, c].getD ((j + 1) % 3) 0, [a, b, c].getD ((j + 2) % 3) 0] := by
  match j, hj with
  | 0, _ => rfl
  | 1, _ => rfl
  | 2, _ => rfl
theorem turn_side {t : List (List Int)} {n : Int} (ok : TriOk t n) {i : Nat} (hi : i < t.length) (j : Nat) (hj : j < 3) : impl_turn.f (rd_L1 t (i : Int)) (j : Int) = some [sideOf t i j, sideOf t i (j + 1), sideOf t i (j + 2)] := by
  obtain ⟨a, b, c, e, _⟩ := ok.i64 (List.getElem_mem hi)
  rw [rdL_nat t i hi, e, turn3 a b c j hj]
  unfold sideOf
  rw [getD_at _ hi, e]
theorem w_nat {a : Int} {m : Nat} (h : a = (m : Int)) (hm : m ≤ 1000) : wrap64 a = (m : Int) := by
  rw [h]
  exact w_id (by omega) (by omega)
theorem w12 {j : Nat} (hj : j < 3) : wrap64 ((j : Int) + 1) = ((j + 1 : Nat) : Int) ∧ wrap64 ((j : Int) + 2) = ((j + 2 : Nat) : Int) := ⟨w_nat rfl (by omega), w_nat rfl (by omega)⟩
theorem len3 (a b c : Int) : 2 < (([a, b, c] : List Int).length : Int) ∧ 1 < (([a, b, c] : List Int).length : Int) := by
  have h : (([a, b, c] : List Int).length : Int) = 3 := rfl
  rw [h]
  exact ⟨by decide, by decide⟩
def flipE (t : List (List Int)) (e : Int) : List (List Int) × Bool :=
  if canR t e = true then
    (((t.set (sideR e t 0).1.toNat [e, sideOf t (sideR e t 0).1.toNat ((sideR e t 0).2.toNat + 2), sideOf t (sideR (-e) t 0).1.toNat ((sideR (-e) t 0).2.toNat + 1)]).set (sideR (-e) t 0).1.toNat
      [-e, sideOf t (sideR (-e) t 0).1.toNat ((sideR (-e) t 0).2.toNat + 2), sideOf t (sideR e t 0).1.toNat ((sideR e t 0).2.toNat + 1)]), true)
  else ([], false)
theorem canR_ok {t : List (List Int)} {e : Int} (ht : t.length ≤ 1048576) (h : canR t e = true) : TriOk t (edges t) ∧ 1 ≤ e ∧ e ≤ edges t := by
  unfold canR at h
  rw [Bool.and_eq_true] at h
  exact isE_bd ht h.1
set_option maxHeartbeats 2000000 in
theorem spec_flipE (t : List (List Int)) (ht : t.length ≤ 1048576) (hr : ∀ r ∈ t, r.length ≤ 1048576) (e : Int) (k : Nat) (hk : 6000002 < k) : spec_FlipEdge.f k t e = some (flipE t e) := by
  unfold spec_FlipEdge.f flipE
  rw [spec_can t ht e k (by omega), Option.bind_some]
  by_cases h : canR t e = true
  · obtain ⟨ok, h1, h2⟩ := canR_ok ht h
    have n9 := ok.n9
    obtain ⟨i, j, hi, hj, s1, s2⟩ := ok.side (x := e) (by omega) (by omega) (by omega)
    obtain ⟨o, a, ho, ha, s3, s4⟩ := ok.side (x := -e) (by omega) (by omega) (by omega)
    have l1 := ok.three hi
    have l2 := ok.three ho
    rw [if_pos h, if_pos h, find_f _ t ht ok.row k (by omega), Option.bind_some, w_id (a := -e) (by omega) (by omega), find_f _ t ht ok.row k (by omega), Option.bind_some, s1, s3]
    obtain ⟨w1, w2⟩ := w12 hj
    obtain ⟨w3, w4⟩ := w12 ha
    have t3 : ∀ m : Nat, 0 ≤ Int.tmod (m : Int) 3 ∧ Int.tmod (m : Int) 3 < 3 := fun m => by rw [Int.tmod_eq_emod_of_nonneg (by omega)]; omega
    have q1 : ((rd_L1 t (i : Int)).length : Int) = 3 := by rw [rdL_nat t i hi, l1]; rfl
    have q2 : ((rd_L1 t (o : Int)).length : Int) = 3 := by rw [rdL_nat t o ho, l2]; rfl
    dsimp only
    rw [w1, w2, w3, w4, q1, q2]
    rw [if_pos (show (0 : Int) ≤ (i : Int) from by omega)]
    rw [if_pos (show (i : Int) < (t.length : Int) from by omega)]
    rw [if_pos (t3 (j + 1)).1]
    rw [if_pos (t3 (j + 1)).2]
    rw [if_pos (t3 (j + 2)).1]
    rw [if_pos (t3 (j + 2)).2]
    rw [if_pos (show (0 : Int) ≤ (o : Int) from by omega)]
    rw [if_pos (show (o : Int) < (t.length : Int) from by omega)]
    rw [if_pos (t3 (a + 1)).1]
    rw [if_pos (t3 (a + 1)).2]
    rw [if_pos (t3 (a + 2)).1]
    rw [if_pos (t3 (a + 2)).2]
    rw [l5Copy_f t ht hr k (by omega), Option.bind_some]
    rw [if_pos (show (i : Int) < (t.length : Int) from by omega)]
    rw [if_pos (show (o : Int) < (t.length : Int) from by omega)]
    rw [rd_side ok hi, rd_side ok hi, rd_side ok ho, rd_side ok ho]
    simp only [Int.toNat_natCast]
  · rw [if_neg h, if_neg h]
set_option maxHeartbeats 2000000 in
theorem impl_flipE (t : List (List Int)) (ht : t.length ≤ 1048576) (hr : ∀ r ∈ t, r.length ≤ 1048576) (e : Int) (k : Nat) (hk : 6000002 < k) : impl_FlipEdge.f k t e = some (flipE t e) := by
  unfold impl_FlipEdge.f flipE
  rw [impl_can t ht hr e k (by omega), Option.bind_some]
  by_cases h : canR t e = true
  · obtain ⟨ok, h1, h2⟩ := canR_ok ht h
    have n9 := ok.n9
    obtain ⟨i, j, hi, hj, s1, s2⟩ := ok.side (x := e) (by omega) (by omega) (by omega)
    obtain ⟨o, a, ho, ha, s3, s4⟩ := ok.side (x := -e) (by omega) (by omega) (by omega)
    rw [if_pos h, if_pos h, sideAt_f _ t ht hr k (by omega), Option.bind_some, w_id (a := -e) (by omega) (by omega), sideAt_f _ t ht hr k (by omega), Option.bind_some, s1, s3]
    dsimp only
    rw [if_pos (by omega), if_pos (by omega), turn_side ok hi j hj, Option.bind_some, if_pos (by omega), if_pos (by omega), turn_side ok ho a ha, Option.bind_some, copyRows_f t ht hr k (by omega), Option.bind_some]
    rw [if_pos (len3 _ _ _).1, if_pos (len3 _ _ _).2, if_pos (show (i : Int) < (t.length : Int) from by omega), if_pos (len3 _ _ _).1, if_pos (len3 _ _ _).2, if_pos (show (o : Int) < (t.length : Int) from by omega)]
    simp only [Int.toNat_natCast]
    rfl
  · rw [if_neg h, if_neg h]
theorem tot3 : ∀ {t : List (List Int)}, (∀ r ∈ t, r.length = 3) → tot t = 3 * t.length
  | [], _ => rfl
  | r :: rs, h => by
    rw [tot, h r List.mem_cons_self, tot3 (fun x hx => h x (List.mem_cons_of_mem _ hx)), List.length_cons]
    omega
theorem flipE_rows (t : List (List Int)) (ht : t.length ≤ 1048576) (e : Int) : (flipE t e).1.length ≤ 6 ∧ ∀ r ∈ (flipE t e).1, r.length = 3 := by
  unfold flipE
  by_cases h : canR t e = true
  · obtain ⟨ok, _⟩ := canR_ok ht h
    have hs := ok.short
    rw [if_pos h]
    refine ⟨by show (List.set _ _ _).length ≤ _; rw [List.length_set, List.length_set]; omega, fun r hr => ?_⟩
    rcases List.mem_or_eq_of_mem_set hr with hr | hr
    · rcases List.mem_or_eq_of_mem_set hr with hr | hr
      · exact ok.row r hr
      · rw [hr]; rfl
    · rw [hr]; rfl
  · rw [if_neg h]
    simp
theorem flipE_bd (t : List (List Int)) (ht : t.length ≤ 1048576) (e : Int) : (flipE t e).1.length ≤ 1048576 ∧ (∀ r ∈ (flipE t e).1, r.length ≤ 1048576) ∧ tot (flipE t e).1 ≤ 2000000 := by
  obtain ⟨h1, h2⟩ := flipE_rows t ht e
  have := tot3 h2
  exact ⟨by omega, fun r hr => by have := h2 r hr; omega, by omega⟩
end Go.Proofs.Ytolmicnapemljaa.L

namespace Go.Proofs.Ytolmicnapemljaa.L
open Go.RowKit Go.Proofs.Ytolmicnapemljaa.P Go.Proofs.Ytolmicnapemljaa.Help Go.Proofs.YtolmicnapemljaaW.PrintWords
set_option linter.unusedVariables false
set_option linter.unusedSimpArgs false

theorem goB_lt (t : List (List Int)) (x : List Int) (S : Int) : ∀ (d : Nat) (e best least : Int), 1 ≤ e → least ≤ S → 0 ≤ best → (best ≠ 0 → sumR (flipC t x best).1 = least ∧ least < S) → 0 ≤ goB t x d e best least ∧ (goB t x d e best least ≠ 0 → sumR (flipC t x (goB t x d e best least)).1 < S) := by
  intro d
  induction d with
  | zero =>
    intro e best least he hl hb h
    exact ⟨hb, fun hn => by show sumR (flipC t x best).1 < S; rw [(h hn).1]; exact (h hn).2⟩
  | succ d ih =>
    intro e best least he hl hb h
    rw [goB]
    by_cases c : (flipC t x e).2 = true
    · rw [if_pos c]
      by_cases c2 : sumR (flipC t x e).1 < least
      · rw [if_pos c2]
        exact ih (e + 1) e _ (by omega) (by omega) (by omega) (fun _ => ⟨rfl, by omega⟩)
      · rw [if_neg c2]
        exact ih (e + 1) best least (by omega) hl hb h
    · rw [if_neg c]
      exact ih (e + 1) best least (by omega) hl hb h
theorem best_lt (t : List (List Int)) (x : List Int) : 0 ≤ bestR t x ∧ (bestR t x ≠ 0 → sumR (flipC t x (bestR t x)).1 < sumR x) := by
  unfold bestR
  by_cases h : isF t x = true
  · rw [if_pos h]
    exact goB_lt t x (sumR x) x.length 1 0 _ (by omega) (Int.le_refl _) (Int.le_refl _) (fun h => absurd rfl h)
  · rw [if_neg h]
    exact ⟨Int.le_refl _, fun h => absurd rfl h⟩
theorem sumL_nn : ∀ (xs : List Int), xs.all co = true → 0 ≤ sumL xs := by
  intro xs
  induction xs with
  | nil => intro _; exact Int.le_refl _
  | cons a xs ih =>
    intro h
    rw [List.all_cons, Bool.and_eq_true] at h
    have h1 := ih h.2
    have h2 : 0 ≤ a := by
      have := h.1
      unfold co at this
      simp at this
      omega
    show 0 ≤ a + sumL xs
    omega
theorem sumR_nn (xs : List Int) : -1 ≤ sumR xs := by
  unfold sumR
  by_cases h : xs.all co = true
  · rw [if_pos h]
    have := sumL_nn xs h
    omega
  · rw [if_neg h]
    omega
def shR : Nat → List (List Int) → List Int → List (List Int) × List Int × Bool
  | 0, t, x => (t, x, true)
  | d + 1, t, x => if bestR t x = 0 then (t, x, true) else shR d (flipE t (bestR t x)).1 (flipC t x (bestR t x)).1
theorem spec_sh_l0 : ∀ (d k : Nat) (t : List (List Int)) (x : List Int), t.length ≤ 1048576 → (∀ r ∈ t, r.length ≤ 1048576) → x.length ≤ 1048576 → sumR x + 1 < d → 9000000 + d < k → spec_Shorten.l0 k t x (bestR t x) = some (shR d t x) := by
  intro d
  induction d with
  | zero =>
    intro k t x h1 h2 h3 hd hk
    have := sumR_nn x
    omega
  | succ d ih =>
    intro k t x h1 h2 h3 hd hk
    obtain ⟨k, rfl⟩ : ∃ m, k = m + 1 := ⟨k - 1, by omega⟩
    obtain ⟨b0, b1⟩ := best_lt t x
    simp only [spec_Shorten.l0]
    rw [shR]
    by_cases h : bestR t x = 0
    · rw [if_pos h, if_neg (by omega)]
    · have b2 := b1 h
      obtain ⟨o1, o2, o3⟩ := flipE_bd t h1 (bestR t x)
      have o4 := flipC_len t h1 x (bestR t x)
      rw [if_neg h, if_pos (by omega), spec_flipC t h1 x _ k (by omega), Option.bind_some, spec_flipE t h1 h2 _ k (by omega), Option.bind_some, spec_best _ o1 _ (by omega) k (by omega), Option.bind_some]
      exact ih k _ _ o1 o2 (by omega) (by omega) (by omega)
theorem impl_sh_l0 : ∀ (d k : Nat) (t : List (List Int)) (x : List Int), t.length ≤ 1048576 → (∀ r ∈ t, r.length ≤ 1048576) → x.length ≤ 1048576 → sumR x + 1 < d → 9000000 + d < k → impl_Shorten.l0 k t x = some (shR d t x) := by
  intro d
  induction d with
  | zero =>
    intro k t x h1 h2 h3 hd hk
    have := sumR_nn x
    omega
  | succ d ih =>
    intro k t x h1 h2 h3 hd hk
    obtain ⟨k, rfl⟩ : ∃ m, k = m + 1 := ⟨k - 1, by omega⟩
    obtain ⟨b0, b1⟩ := best_lt t x
    simp only [impl_Shorten.l0]
    rw [impl_best t h1 h2 x h3 k (by omega), Option.bind_some, shR]
    by_cases h : bestR t x = 0
    · rw [if_pos h, if_pos h]
    · have b2 := b1 h
      obtain ⟨o1, o2, o3⟩ := flipE_bd t h1 (bestR t x)
      have o4 := flipC_len t h1 x (bestR t x)
      rw [if_neg h, if_neg h, impl_flipC t h1 h2 x h3 _ k (by omega), Option.bind_some, impl_flipE t h1 h2 _ k (by omega), Option.bind_some]
      exact ih k _ _ o1 o2 (by omega) (by omega) (by omega)
theorem shR_bd : ∀ (d : Nat) (t : List (List Int)) (x : List Int), t.length ≤ 1048576 → (∀ r ∈ t, r.length ≤ 1048576) → tot t ≤ 2000000 → x.length ≤ 1048576 → (shR d t x).1.length ≤ 1048576 ∧ (∀ r ∈ (shR d t x).1, r.length ≤ 1048576) ∧ tot (shR d t x).1 ≤ 2000000 ∧ (shR d t x).2.1.length ≤ 1048576 := by
  intro d
  induction d with
  | zero => intro t x h1 h2 h3 h4; exact ⟨h1, h2, h3, h4⟩
  | succ d ih =>
    intro t x h1 h2 h3 h4
    rw [shR]
    by_cases h : bestR t x = 0
    · rw [if_pos h]
      exact ⟨h1, h2, h3, h4⟩
    · rw [if_neg h]
      obtain ⟨o1, o2, o3⟩ := flipE_bd t h1 (bestR t x)
      have o4 := flipC_len t h1 x (bestR t x)
      exact ih _ _ o1 o2 o3 (by omega)
def shF (t : List (List Int)) (x : List Int) : List (List Int) × List Int × Bool := if isF t x = true then shR ((sumR x).toNat + 2) t x else ([], [], false)
theorem sh_d (x : List Int) : sumR x + 1 < (((sumR x).toNat + 2 : Nat) : Int) := by
  have := sumR_nn x
  omega
theorem spec_sh (t : List (List Int)) (h1 : t.length ≤ 1048576) (h2 : ∀ r ∈ t, r.length ≤ 1048576) (x : List Int) (h3 : x.length ≤ 1048576) (k : Nat) (hk : 9000002 + (sumR x).toNat < k) : spec_Shorten.f k t x = some (shF t x) := by
  unfold spec_Shorten.f shF
  rw [spec_fair t h1 x k (by omega), Option.bind_some]
  by_cases h : isF t x = true
  · have y3 : ([] : List Int).length + x.length < 17592186044416 := by simp; omega
    rw [if_pos h, if_pos h, l5Copy_f t h1 h2 k (by omega), Option.bind_some, Option.bind_some, if_pos y3, Option.bind_some, List.nil_append, spec_best t h1 x h3 k (by omega), Option.bind_some]
    exact spec_sh_l0 _ k t x h1 h2 h3 (sh_d x) (by omega)
  · rw [if_neg h, if_neg h]
theorem impl_sh (t : List (List Int)) (h1 : t.length ≤ 1048576) (h2 : ∀ r ∈ t, r.length ≤ 1048576) (x : List Int) (h3 : x.length ≤ 1048576) (k : Nat) (hk : 9000002 + (sumR x).toNat < k) : impl_Shorten.f k t x = some (shF t x) := by
  unfold impl_Shorten.f shF
  rw [impl_fair t h1 x k (by omega), Option.bind_some]
  by_cases h : isF t x = true
  · rw [if_pos h, if_pos h, copyRows_f t h1 h2 k (by omega), Option.bind_some, copyOf_f x h3, Option.bind_some]
    exact impl_sh_l0 _ k t x h1 h2 h3 (sh_d x) (by omega)
  · rw [if_neg h, if_neg h]
theorem shF_bd (t : List (List Int)) (x : List Int) (h1 : t.length ≤ 1048576) (h2 : ∀ r ∈ t, r.length ≤ 1048576) (h3 : tot t ≤ 2000000) (h4 : x.length ≤ 1048576) : (shF t x).1.length ≤ 1048576 ∧ (∀ r ∈ (shF t x).1, r.length ≤ 1048576) ∧ tot (shF t x).1 ≤ 2000000 ∧ (shF t x).2.1.length ≤ 1048576 := by
  unfold shF
  by_cases h : isF t x = true
  · rw [if_pos h]
    exact shR_bd _ t x h1 h2 h3 h4
  · rw [if_neg h]
    exact ⟨by simp, by simp, by decide, by simp⟩
end Go.Proofs.Ytolmicnapemljaa.L

namespace Go.Proofs.Ytolmicnapemljaa.L
open Go.RowKit Go.Proofs.Ytolmicnapemljaa.P Go.Proofs.Ytolmicnapemljaa.Help Go.Proofs.YtolmicnapemljaaW.PrintWords
set_option linter.unusedVariables false
set_option linter.unusedSimpArgs false

/-- n numbers from j on. -/
def markL : Nat → Int → List Int
  | 0, _ => []
  | n + 1, j => j :: markL n (j + 1)
theorem markL_len : ∀ (n : Nat) (j : Int), (markL n j).length = n
  | 0, _ => rfl
  | n + 1, j => by rw [markL, List.length_cons, markL_len n (j + 1)]
theorem markIntS_l0 : ∀ (d k i : Nat) (xs : List Int) (j : Int), i + d = xs.length → d < k → xs.length ≤ 1000000000000 → 0 ≤ j → j + d ≤ 4000000000000000 →
    laws_markIntS.l0 k xs j (i : Int) = some (j + d, xs.take i ++ markL d j) := by
  intro d
  induction d with
  | zero =>
    intro k i xs j hi hk hx hj0 hj
    obtain ⟨k, rfl⟩ : ∃ m, k = m + 1 := ⟨k - 1, by omega⟩
    simp only [laws_markIntS.l0]
    rw [if_neg (by omega), List.take_of_length_le (by omega)]
    simp [markL]
  | succ d ih =>
    intro k i xs j hi hk hx hj0 hj
    obtain ⟨k, rfl⟩ : ∃ m, k = m + 1 := ⟨k - 1, by omega⟩
    simp only [laws_markIntS.l0]
    rw [if_pos (by omega), if_pos (by omega), Int.toNat_natCast, w_id (a := j + 1) (by omega) (by omega), w_id (a := (i : Int) + 1) (by omega) (by omega), show ((i : Int) + 1) = ((i + 1 : Nat) : Int) by omega]
    rw [ih k (i + 1) _ (j + 1) (by rw [List.length_set]; omega) (by omega) (by rw [List.length_set]; omega) (by omega) (by omega)]
    congr 1
    refine Prod.ext ?_ ?_
    · show j + 1 + (d : Int) = j + ((d + 1 : Nat) : Int)
      omega
    · show (xs.set i j).take (i + 1) ++ markL d (j + 1) = xs.take i ++ markL (d + 1) j
      rw [List.take_succ_eq_append_getElem (by rw [List.length_set]; omega), List.getElem_set_self, List.take_set_of_le (by omega), List.append_assoc]
      rfl
theorem heldIntS_l0 : ∀ (d k : Nat) (ys : List Int) (j : Int), d < k → ys.length + d ≤ 1000000000000 → 0 ≤ j → j + d ≤ 4000000000000000 →
    laws_heldIntS.l0 k (ys ++ markL d j) j (ys.length : Int) = some (j + d) := by
  intro d
  induction d with
  | zero =>
    intro k ys j hk hx hj0 hj
    obtain ⟨k, rfl⟩ : ∃ m, k = m + 1 := ⟨k - 1, by omega⟩
    simp only [laws_heldIntS.l0]
    rw [if_neg (by simp [markL])]
    simp
  | succ d ih =>
    intro k ys j hk hx hj0 hj
    obtain ⟨k, rfl⟩ : ∃ m, k = m + 1 := ⟨k - 1, by omega⟩
    have hr : rd (ys ++ markL (d + 1) j) (ys.length : Int) = j := by
      unfold rd
      rw [markL]
      simp [List.getD_eq_getElem?_getD]
    have hl : ((ys ++ markL (d + 1) j).length : Int) = ys.length + d + 1 := by
      rw [List.length_append, markL_len]; omega
    simp only [laws_heldIntS.l0]
    rw [hr, hl, if_pos (by omega), if_pos (by omega)]
    simp only [if_true]
    rw [w_id (a := j + 1) (by omega) (by omega), w_id (a := (ys.length : Int) + 1) (by omega) (by omega)]
    have h := ih k (ys ++ [j]) (j + 1) (by omega) (by simp; omega) (by omega) (by omega)
    rw [List.append_assoc, List.length_append] at h
    simp only [List.singleton_append, List.length_singleton] at h
    rw [markL, show ((ys.length : Int) + 1) = ((ys.length + 1 : Nat) : Int) by omega, h]
    congr 1
    omega
theorem markIntS_f (xs : List Int) (hx : xs.length ≤ 1048576) (j : Int) (hj : 0 ≤ j ∧ j ≤ 100000000) (k : Nat) (hk : 1048576 < k) : laws_markIntS.f k xs j = some (j + xs.length, markL xs.length j) := by
  unfold laws_markIntS.f
  have h := markIntS_l0 xs.length k 0 xs j (by omega) (by omega) (by omega) (by omega) (by omega)
  rw [List.take_zero, List.nil_append] at h
  exact h
theorem heldIntS_f (n : Nat) (hx : n ≤ 1048576) (j : Int) (hj : 0 ≤ j ∧ j ≤ 100000000) (k : Nat) (hk : 1048576 < k) : laws_heldIntS.f k (markL n j) j = some (j + (n : Int)) := by
  unfold laws_heldIntS.f
  have h := heldIntS_l0 n k [] j (by omega) (by simp; omega) (by omega) (by omega)
  simpa using h
end Go.Proofs.Ytolmicnapemljaa.L

namespace Go.Proofs.Ytolmicnapemljaa.L
open Go.RowKit Go.Proofs.Ytolmicnapemljaa.P Go.Proofs.Ytolmicnapemljaa.Help Go.Proofs.YtolmicnapemljaaW.PrintWords
set_option linter.unusedVariables false
set_option linter.unusedSimpArgs false

def markLL : List Nat → Int → List (List Int)
  | [], _ => []
  | n :: ns, j => markL n j :: markLL ns (j + n)
def totN : List Nat → Nat
  | [] => 0
  | n :: ns => n + totN ns
theorem markLL_len : ∀ (ns : List Nat) (j : Int), (markLL ns j).length = ns.length
  | [], _ => rfl
  | n :: ns, j => by rw [markLL, List.length_cons, List.length_cons, markLL_len ns]
theorem tot_map : ∀ (xs : List (List Int)), totN (xs.map List.length) = tot xs
  | [] => rfl
  | r :: rs => by rw [List.map_cons, totN, tot, tot_map rs]
theorem markIntSS_l0 : ∀ (d k i : Nat) (xs : List (List Int)) (j : Int), i + d = xs.length → d + 1048577 < k → xs.length ≤ 1048600 → (∀ r ∈ xs, r.length ≤ 1048576) → 0 ≤ j → j + tot (xs.drop i) ≤ 100000000 →
    laws_markIntSS.l0 k xs j (i : Int) = some (j + tot (xs.drop i), xs.take i ++ markLL ((xs.drop i).map List.length) j) := by
  intro d
  induction d with
  | zero =>
    intro k i xs j hi hk hx hr h0 h1
    obtain ⟨k, rfl⟩ : ∃ m, k = m + 1 := ⟨k - 1, by omega⟩
    simp only [laws_markIntSS.l0]
    rw [if_neg (by omega), List.drop_of_length_le (by omega), List.take_of_length_le (by omega)]
    simp [tot, markLL]
  | succ d ih =>
    intro k i xs j hi hk hx hr h0 h1
    obtain ⟨k, rfl⟩ : ∃ m, k = m + 1 := ⟨k - 1, by omega⟩
    have hlt : i < xs.length := by omega
    have hl := hr _ (List.getElem_mem hlt)
    rw [List.drop_eq_getElem_cons hlt, tot] at h1
    simp only [laws_markIntSS.l0]
    rw [if_pos (by omega), if_pos (by omega), rdL_nat xs i hlt, markIntS_f _ hl j (by omega) k (by omega), Option.bind_some, w_id (by omega) (by omega), show ((i : Int) + 1) = ((i + 1 : Nat) : Int) by omega, Int.toNat_natCast]
    have hd : (xs.set i (markL xs[i].length j)).drop (i + 1) = xs.drop (i + 1) := by rw [List.drop_set_of_lt (by omega)]
    rw [ih k (i + 1) _ _ (by rw [List.length_set]; omega) (by omega) (by rw [List.length_set]; exact hx) (fun r hm => by
      rcases List.mem_or_eq_of_mem_set hm with h | h
      · exact hr r h
      · rw [h, markL_len]; exact hl) (by omega) (by rw [hd]; omega), hd, List.drop_eq_getElem_cons hlt, tot, List.map_cons, markLL, List.take_succ_eq_append_getElem (by rw [List.length_set]; omega), List.getElem_set_self, List.take_set_of_le (by omega), List.append_assoc]
    congr 2
    · omega
theorem markIntSS_f (xs : List (List Int)) (hx : xs.length ≤ 1048600) (hr : ∀ r ∈ xs, r.length ≤ 1048576) (ht : tot xs ≤ 2000000) (k : Nat) (hk : 3000000 < k) : laws_markIntSS.f k xs 1 = some (1 + (tot xs : Int), markLL (xs.map List.length) 1) := by
  unfold laws_markIntSS.f
  have := markIntSS_l0 xs.length k 0 xs 1 (by omega) (by omega) hx hr (by omega) (by rw [List.drop_zero]; omega)
  rw [List.drop_zero, List.take_zero, List.nil_append] at this
  exact this
theorem heldIntSS_l0 : ∀ (d k i : Nat) (ys : List (List Int)) (ns : List Nat) (j : Int), i + d = ys.length → d + 1048577 < k → ys.length ≤ 1048600 → (∀ n ∈ ns, n ≤ 1048576) → 0 ≤ j → j + totN ns ≤ 100000000 → ys.drop i = markLL ns j →
    laws_heldIntSS.l0 k ys j (i : Int) = some (j + totN ns) := by
  intro d
  induction d with
  | zero =>
    intro k i ys ns j hi hk hx hr h0 h1 he
    obtain ⟨k, rfl⟩ : ∃ m, k = m + 1 := ⟨k - 1, by omega⟩
    simp only [laws_heldIntSS.l0]
    rw [if_neg (by omega)]
    rw [List.drop_of_length_le (by omega)] at he
    cases ns with
    | nil => simp [totN]
    | cons n ns => rw [markLL] at he; exact absurd he (by simp)
  | succ d ih =>
    intro k i ys ns j hi hk hx hr h0 h1 he
    obtain ⟨k, rfl⟩ : ∃ m, k = m + 1 := ⟨k - 1, by omega⟩
    have hlt : i < ys.length := by omega
    rw [List.drop_eq_getElem_cons hlt] at he
    cases ns with
    | nil => exact absurd he (List.cons_ne_nil _ _)
    | cons n ns =>
      rw [markLL] at he
      injection he with e1 e2
      have hn := hr n List.mem_cons_self
      rw [totN] at h1
      simp only [laws_heldIntSS.l0]
      rw [if_pos (by omega), if_pos (by omega), rdL_nat ys i hlt, e1, heldIntS_f n hn j (by omega) k (by omega), Option.bind_some, if_neg (by omega), w_id (by omega) (by omega), show ((i : Int) + 1) = ((i + 1 : Nat) : Int) by omega, ih k (i + 1) ys ns (j + n) (by omega) (by omega) hx (fun m hm => hr m (List.mem_cons_of_mem _ hm)) (by omega) (by omega) e2, totN]
      congr 1
      omega
theorem heldIntSS_f (xs : List (List Int)) (hx : xs.length ≤ 1048600) (hr : ∀ r ∈ xs, r.length ≤ 1048576) (ht : tot xs ≤ 2000000) (k : Nat) (hk : 3000000 < k) : laws_heldIntSS.f k (markLL (xs.map List.length) 1) 1 = some (1 + (tot xs : Int)) := by
  unfold laws_heldIntSS.f
  have := heldIntSS_l0 xs.length k 0 (markLL (xs.map List.length) 1) (xs.map List.length) 1 (by rw [markLL_len, List.length_map]; omega) (by omega) (by rw [markLL_len, List.length_map]; exact hx) (fun n hn => by
    obtain ⟨r, hm, rfl⟩ := List.mem_map.1 hn
    exact hr r hm) (by omega) (by rw [tot_map]; omega) (by rw [List.drop_zero])
  rw [tot_map] at this
  exact this
end Go.Proofs.Ytolmicnapemljaa.L

namespace Go.Proofs.Ytolmicnapemljaa.Pure
open Go.RowKit Go.Proofs.Ytolmicnapemljaa.P Go.Proofs.Ytolmicnapemljaa.Help Go.Proofs.Ytolmicnapemljaa.L
theorem FnExactShorten : ∀ (l0 : List (List Int)) (l1 : List Int), l0.length ≤ 9223372036854775807 → (∀ r ∈ l0, r.length ≤ 9223372036854775807) → (∀ r ∈ l0, ∀ x ∈ r, I64 x) → l1.length ≤ 9223372036854775807 → (∀ x ∈ l1, I64 x) → ∃ k, laws_FnExactShorten.f k l0 l1 = some true := by
  intro t x h1 h2 _ _ _
  obtain ⟨k, hk0⟩ : ∃ k, k = 10000000 + (sumR x).toNat := ⟨_, rfl⟩
  have hk : 9999999 < k ∧ 9000002 + (sumR x).toNat < k := by omega
  clear hk0
  refine ⟨k, ?_⟩
  unfold laws_FnExactShorten.f
  by_cases hx : (x.length : Int) > 1048576
  · rw [if_pos hx]
  · have hxl : x.length ≤ 1048576 := by omega
    obtain ⟨z, hz, hb⟩ := szIntSS_f t h1 h2 1048576 (by decide) (by decide) k (by omega)
    rw [if_neg hx, hz, Option.bind_some]
    by_cases h : z < 0
    · rw [if_pos h]
    · obtain ⟨b1, b2, b3⟩ := hb (by omega)
      obtain ⟨⟨o, y, b⟩, hp⟩ : ∃ p, shF t x = p := ⟨_, rfl⟩
      obtain ⟨o1, o2, o3, o4⟩ := shF_bd t x b1 b2 (by omega) hxl
      rw [hp] at o1 o2 o3 o4
      dsimp only at o1 o2 o3 o4
      have g1 := spec_sh t b1 b2 x hxl k (by omega)
      have g2 := impl_sh t b1 b2 x hxl k (by omega)
      rw [hp] at g1 g2
      have e0 := toIntSS_f t b1 b2 k (by omega)
      have a0 := toIntS_f x hxl k (by omega)
      have a1 := eqIntS_self x hxl k (by omega)
      have a2 := markIntS_f x hxl (1 + (tot t : Int)) (by omega) k (by omega)
      have e1 := eqIntSS_self o o1 o2 k (by omega)
      have e2 := markIntSS_f o (by omega) o2 o3 k (by omega)
      have e3 := heldIntSS_f o (by omega) o2 o3 k (by omega)
      have f1 := eqIntS_self y o4 k (by omega)
      have f2 := markIntS_f y o4 (1 + (tot o : Int)) (by omega) k (by omega)
      have f3 := heldIntS_f y.length o4 (1 + (tot o : Int)) (by omega) k (by omega)
      have e4 := eqIntSS_self t b1 b2 k (by omega)
      have e5 := markIntSS_f t (by omega) b2 (by omega) k (by omega)
      have n : ¬ (1 + (tot o : Int) < 0) := by omega
      have n3 : ¬ (1 + (tot o : Int) + (y.length : Int) < 0) := by omega
      have n2 : ¬ (1 + (tot t : Int) + (x.length : Int) < 0) := by omega
      rw [if_neg h]
      simp only [Option.bind_some, e0, a0, a1, a2, e1, e2, e3, f1, f2, f3, e4, e5, g1, g2, if_true, if_neg n, if_neg n2, if_neg n3]
end Go.Proofs.Ytolmicnapemljaa.Pure
