/- What IsTriangulation computes in the program and in the reference; no condition but the number of rounds and the length. -/
import Derived.Test.YtcligopbieaceaaPx3
import Derived.Test.YtcligopbieaceaaPx4
import Derived.Test.YtcligopbieaceaaLIn
import Derived.Test.YtcligopbieaceaaLSS
namespace Go.Proofs.Ytcligopbieaceaa.L
open Go.RowKit Go.Proofs.Ytcligopbieaceaa.P Go.Proofs.Ytcligopbieaceaa.Help Go.Proofs.YtcligopbieaceaaW.PrintWords
set_option linter.unusedVariables false
set_option linter.unusedSimpArgs false

/-- The letters of a row, put to those that are seen. -/
def rowR (n : Int) : List Int → List Int → Option (List Int)
  | seen, [] => some seen
  | seen, x :: xs => if x ≠ 0 ∧ (-n ≤ x ∧ x ≤ n) ∧ x ∉ seen then rowR n (x :: seen) xs else none
def triR (n : Int) : List Int → List (List Int) → Bool
  | _, [] => true
  | seen, r :: rs => if r.length = 3 then (match rowR n seen r with | some s => triR n s rs | none => false) else false
/-- The number of edges. -/
def edges (t : List (List Int)) : Int := wrap64 (Int.tdiv (wrap64 (3 * (t.length : Int))) 2)
def isT (t : List (List Int)) : Bool := if (t.length : Int) % 2 = 0 ∧ 3 ≤ edges t ∧ edges t ≤ 9 then triR (edges t) [] t else false

theorem impl_tri_l1 (t : List (List Int)) (n : Int) (hn : 3 ≤ n ∧ n ≤ 9) (i : Nat) (hi : i < t.length) (hl : t[i].length = 3) : ∀ (d j k : Nat) (seen : List Int), j + d = 3 → d < k →
    impl_IsTriangulation.l1 k t n seen (i : Int) (j : Int) = (match rowR n seen (t[i].drop j) with | some s => impl_IsTriangulation.l0 (k - d - 1) t n s (wrap64 ((i : Int) + 1)) | none => some false) := by
  intro d
  induction d with
  | zero =>
    intro j k seen hj hk
    obtain ⟨k, rfl⟩ : ∃ m, k = m + 1 := ⟨k - 1, by omega⟩
    simp only [impl_IsTriangulation.l1]
    rw [rdL_nat t i hi, if_neg (by omega), List.drop_of_length_le (by omega)]
    rfl
  | succ d ih =>
    intro j k seen hj hk
    obtain ⟨k, rfl⟩ : ∃ m, k = m + 1 := ⟨k - 1, by omega⟩
    have hlt : j < t[i].length := by omega
    simp only [impl_IsTriangulation.l1]
    rw [rdL_nat t i hi, if_pos (by omega), if_pos (by omega), rd_nat _ j hlt, within_eq, Option.bind_some, w_id (a := -n) (by omega) (by omega), List.drop_eq_getElem_cons hlt]
    by_cases h1 : t[i][j] = 0
    · rw [if_pos h1]
      simp [rowR, h1]
    · rw [if_neg h1]
      by_cases h2 : -n ≤ t[i][j] ∧ t[i][j] ≤ n
      · rw [if_pos (by simpa using h2)]
        by_cases h3 : t[i][j] ∈ seen
        · rw [if_pos h3]
          simp [rowR, h3]
        · rw [if_neg h3, w_id (a := (j : Int) + 1) (by omega) (by omega), show ((j : Int) + 1) = ((j + 1 : Nat) : Int) by omega, ih (j + 1) k _ (by omega) (by omega), rowR, if_pos ⟨h1, h2, h3⟩, show k + 1 - (d + 1) - 1 = k - d - 1 by omega]
      · rw [if_neg (by simpa using h2), rowR, if_neg (fun h => h2 h.2.1)]
theorem impl_tri_l0 (t : List (List Int)) (ht : t.length ≤ 1048600) (n : Int) (hn : 3 ≤ n ∧ n ≤ 9) : ∀ (d i k : Nat) (seen : List Int), i + d = t.length → 5 * d < k →
    impl_IsTriangulation.l0 k t n seen (i : Int) = some (triR n seen (t.drop i)) := by
  intro d
  induction d with
  | zero =>
    intro i k seen hi hk
    obtain ⟨k, rfl⟩ : ∃ m, k = m + 1 := ⟨k - 1, by omega⟩
    simp only [impl_IsTriangulation.l0]
    rw [if_neg (by omega), List.drop_of_length_le (by omega)]
    rfl
  | succ d ih =>
    intro i k seen hi hk
    obtain ⟨k, rfl⟩ : ∃ m, k = m + 1 := ⟨k - 1, by omega⟩
    have hlt : i < t.length := by omega
    simp only [impl_IsTriangulation.l0]
    rw [if_pos (by omega), if_pos (by omega), rdL_nat t i hlt, List.drop_eq_getElem_cons hlt, triR]
    by_cases h1 : t[i].length = 3
    · have := impl_tri_l1 t n hn i hlt h1 3 0 k seen (by omega) (by omega)
      rw [if_pos (by omega), if_pos h1, show (0 : Int) = ((0 : Nat) : Int) from rfl, this, List.drop_zero]
      cases rowR n seen t[i] with
      | none => rfl
      | some s =>
        show impl_IsTriangulation.l0 _ t n s _ = some (triR n s _)
        rw [w_id (by omega) (by omega), show ((i : Int) + 1) = ((i + 1 : Nat) : Int) by omega, ih (i + 1) _ s (by omega) (by omega)]
    · rw [if_neg (by omega), if_neg h1]
theorem impl_isT' (t : List (List Int)) (ht : t.length ≤ 1048600) (k : Nat) (hk : 6000000 < k) : impl_IsTriangulation.f k t = some (isT t) := by
  obtain ⟨k, rfl⟩ : ∃ m, k = m + 1 := ⟨k - 1, by omega⟩
  unfold impl_IsTriangulation.f
  rw [within_eq, Option.bind_some]
  unfold isT edges
  by_cases h1 : (t.length : Int) % 2 = 0
  · rw [if_pos h1]
    simp only [impl_IsTriangulation.j0]
    by_cases h2 : 3 ≤ wrap64 (Int.tdiv (wrap64 (3 * (t.length : Int))) 2) ∧ wrap64 (Int.tdiv (wrap64 (3 * (t.length : Int))) 2) ≤ 9
    · rw [if_neg (by simpa using h2), if_pos ⟨h1, h2⟩]
      have := impl_tri_l0 t ht _ h2 t.length 0 k [] (by omega) (by omega)
      rw [List.drop_zero] at this
      exact this
    · rw [if_pos (by rw [decide_eq_false h2]; rfl), if_neg (fun h => h2 h.2)]
  · rw [if_neg h1]
    simp only [impl_IsTriangulation.j0]
    rw [if_pos trivial, if_neg (fun h => h1 h.1)]
/-- What is marked is what is seen. -/
def Marks (n : Int) (x4 : List Bool) (seen : List Int) : Prop := (x4.length : Int) = 2 * n + 1 ∧ ∀ y, -n ≤ y → y ≤ n → rdOf false x4 (n + y) = decide (y ∈ seen)
theorem Marks.put {n : Int} {x4 : List Bool} {seen : List Int} (h : Marks n x4 seen) {x : Int} (hx : -n ≤ x ∧ x ≤ n) : Marks n (x4.set (n + x).toNat true) (x :: seen) := by
  obtain ⟨h1, h2⟩ := h
  refine ⟨by rw [List.length_set]; exact h1, fun y hy1 hy2 => ?_⟩
  have h3 := h2 y hy1 hy2
  unfold rdOf at h3 ⊢
  rw [List.getD_eq_getElem?_getD] at h3 ⊢
  rw [List.getElem?_set]
  by_cases e : (n + x).toNat = (n + y).toNat
  · have : x = y := by omega
    subst this
    rw [if_pos rfl, if_pos (by omega)]
    simp
  · have hne : y ≠ x := fun e' => e (by rw [e'])
    rw [if_neg e, h3]
    simp [hne]
theorem Marks.made {n : Int} (hn : 0 ≤ n) : Marks n (List.replicate (2 * n + 1).toNat false) [] := by
  refine ⟨by rw [List.length_replicate]; omega, fun y _ _ => ?_⟩
  unfold rdOf
  rw [List.getD_eq_getElem?_getD, List.getElem?_replicate]
  split <;> simp
theorem spec_tri_l1 (t : List (List Int)) (n : Int) (hn : 3 ≤ n ∧ n ≤ 9) (i : Nat) (hi : i < t.length) (hl : t[i].length = 3) : ∀ (d j k : Nat) (x4 : List Bool) (seen : List Int), Marks n x4 seen → j + d = 3 → d < k →
    (rowR n seen (t[i].drop j) = none ∧ spec_IsTriangulation.l1 k t n x4 (i : Int) (j : Int) = some false) ∨ ∃ s x4', rowR n seen (t[i].drop j) = some s ∧ Marks n x4' s ∧ spec_IsTriangulation.l1 k t n x4 (i : Int) (j : Int) = spec_IsTriangulation.l0 (k - d - 1) t n x4' (wrap64 ((i : Int) + 1)) := by
  intro d
  induction d with
  | zero =>
    intro j k x4 seen hm hj hk
    obtain ⟨k, rfl⟩ : ∃ m, k = m + 1 := ⟨k - 1, by omega⟩
    simp only [spec_IsTriangulation.l1]
    rw [if_neg (by omega), List.drop_of_length_le (by omega)]
    exact .inr ⟨seen, x4, rfl, hm, rfl⟩
  | succ d ih =>
    intro j k x4 seen hm hj hk
    obtain ⟨k, rfl⟩ : ∃ m, k = m + 1 := ⟨k - 1, by omega⟩
    have hlt : j < t[i].length := by omega
    simp only [spec_IsTriangulation.l1]
    rw [if_pos (by omega), if_pos (by omega), if_pos (by omega), if_pos (by omega), rdL_nat t i hi, if_pos (by omega), rd_nat _ j hlt, l1In_eq, Option.bind_some, w_id (a := -n) (by omega) (by omega), List.drop_eq_getElem_cons hlt]
    by_cases h1 : t[i][j] = 0
    · rw [if_pos h1]
      exact .inl ⟨by simp [rowR, h1], rfl⟩
    · rw [if_neg h1]
      by_cases h2 : -n ≤ t[i][j] ∧ t[i][j] ≤ n
      · have hx := hm.2 _ h2.1 h2.2
        have hlen := hm.1
        rw [if_pos (by simpa using h2), w_id (a := n + t[i][j]) (by omega) (by omega), if_pos (by omega), if_pos (by omega), hx]
        by_cases h3 : t[i][j] ∈ seen
        · rw [if_pos (by simpa using h3)]
          exact .inl ⟨by simp [rowR, h3], rfl⟩
        · rw [if_neg (by simpa using h3), w_id (a := (j : Int) + 1) (by omega) (by omega), show ((j : Int) + 1) = ((j + 1 : Nat) : Int) by omega, rowR, if_pos ⟨h1, h2, h3⟩, show k + 1 - (d + 1) - 1 = k - d - 1 by omega]
          exact ih (j + 1) k _ _ (hm.put h2) (by omega) (by omega)
      · rw [if_neg (by simpa using h2), rowR, if_neg (fun h => h2 h.2.1)]
        exact .inl ⟨rfl, rfl⟩
theorem spec_tri_l0 (t : List (List Int)) (ht : t.length ≤ 1048600) (n : Int) (hn : 3 ≤ n ∧ n ≤ 9) : ∀ (d i k : Nat) (x4 : List Bool) (seen : List Int), Marks n x4 seen → i + d = t.length → 5 * d < k →
    spec_IsTriangulation.l0 k t n x4 (i : Int) = some (triR n seen (t.drop i)) := by
  intro d
  induction d with
  | zero =>
    intro i k x4 seen hm hi hk
    obtain ⟨k, rfl⟩ : ∃ m, k = m + 1 := ⟨k - 1, by omega⟩
    simp only [spec_IsTriangulation.l0]
    rw [if_neg (by omega), List.drop_of_length_le (by omega)]
    rfl
  | succ d ih =>
    intro i k x4 seen hm hi hk
    obtain ⟨k, rfl⟩ : ∃ m, k = m + 1 := ⟨k - 1, by omega⟩
    have hlt : i < t.length := by omega
    simp only [spec_IsTriangulation.l0]
    rw [if_pos (by omega), if_pos (by omega), rdL_nat t i hlt, List.drop_eq_getElem_cons hlt, triR]
    by_cases h1 : t[i].length = 3
    · rw [if_pos (by omega), if_pos h1, show (0 : Int) = ((0 : Nat) : Int) from rfl]
      rcases spec_tri_l1 t n hn i hlt h1 3 0 k x4 seen hm (by omega) (by omega) with ⟨h2, h3⟩ | ⟨s, x4', h2, h3, h4⟩
      · rw [h3]
        rw [List.drop_zero] at h2
        rw [h2]
      · rw [h4]
        rw [List.drop_zero] at h2
        rw [h2, w_id (by omega) (by omega), show ((i : Int) + 1) = ((i + 1 : Nat) : Int) by omega]
        exact ih (i + 1) _ x4' s h3 (by omega) (by omega)
    · rw [if_neg (by omega), if_neg h1]
theorem spec_isT' (t : List (List Int)) (ht : t.length ≤ 1048600) (k : Nat) (hk : 6000000 < k) : spec_IsTriangulation.f k t = some (isT t) := by
  obtain ⟨k, rfl⟩ : ∃ m, k = m + 1 := ⟨k - 1, by omega⟩
  unfold spec_IsTriangulation.f
  rw [l1In_eq, Option.bind_some]
  unfold isT edges
  by_cases h1 : (t.length : Int) % 2 = 0
  · rw [if_pos h1]
    simp only [spec_IsTriangulation.j0]
    by_cases h2 : 3 ≤ wrap64 (Int.tdiv (wrap64 (3 * (t.length : Int))) 2) ∧ wrap64 (Int.tdiv (wrap64 (3 * (t.length : Int))) 2) ≤ 9
    · obtain ⟨n, hn⟩ : ∃ n : Int, wrap64 (Int.tdiv (wrap64 (3 * (t.length : Int))) 2) = n := ⟨_, rfl⟩
      rw [hn] at h2 ⊢
      rw [if_neg (by simpa using h2), if_pos (show (t.length : Int) % 2 = 0 ∧ 3 ≤ n ∧ n ≤ 9 from ⟨h1, h2⟩), w_id (a := 2 * n) (by omega) (by omega), w_id (a := 2 * n + 1) (by omega) (by omega), if_pos (by omega), if_pos (by omega)]
      have := spec_tri_l0 t ht n h2 t.length 0 k _ [] (Marks.made (by omega)) (by omega) (by omega)
      rw [List.drop_zero] at this
      exact this
    · rw [if_pos (by rw [decide_eq_false h2]; rfl), if_neg (fun h => h2 h.2)]
  · rw [if_neg h1]
    simp only [spec_IsTriangulation.j0]
    rw [if_pos trivial, if_neg (fun h => h1 h.1)]
theorem impl_isT (t : List (List Int)) (ht : t.length ≤ 1048576) (k : Nat) (hk : 6000000 < k) : impl_IsTriangulation.f k t = some (isT t) := impl_isT' t (by omega) k hk
theorem spec_isT (t : List (List Int)) (ht : t.length ≤ 1048576) (k : Nat) (hk : 6000000 < k) : spec_IsTriangulation.f k t = some (isT t) := spec_isT' t (by omega) k hk
end Go.Proofs.Ytcligopbieaceaa.L
