/- The program's TriText answers as the reference's, for all arguments; no condition. -/
import Derived.Test.YtahokioglinpgaaPx0
import Derived.Test.YtahokioglinpgaaHelp
import Derived.Test.YtahokioglinpgaaPx3
import Derived.Test.YtahokioglinpgaaPx5
import Derived.Test.YtahokioglinpgaaPx1
import Derived.Test.YtahokioglinpgaaPx2
import Derived.Test.YtahokioglinpgaaPx4
import Derived.Test.YtahokioglinpgaaPx11
import Derived.Test.YtahokioglinpgaaPx12
import Derived.Test.YtahokioglinpgaaPx13

namespace Go.Proofs.Ytahokioglinpgaa.L
open Go.RowKit Go.Proofs.Ytahokioglinpgaa.P Go.Proofs.Ytahokioglinpgaa.Help Go.Proofs.YtahokioglinpgaaW.PrintWords
set_option linter.unusedVariables false
set_option linter.unusedSimpArgs false

theorem w_id {a : Int} (h0 : -9223372036854775808 ≤ a) (h1 : a ≤ 9223372036854775807) : wrap64 a = a := by unfold wrap64; omega
theorem mulb {a b A B : Int} (h1 : -A ≤ a) (h2 : a ≤ A) (h3 : -B ≤ b) (h4 : b ≤ B) : -(A * B) ≤ a * b ∧ a * b ≤ A * B := by
  have hA : 0 ≤ A := by omega
  have hB : 0 ≤ B := by omega
  have h : (a * b).natAbs ≤ (A * B).natAbs := by
    rw [Int.natAbs_mul, Int.natAbs_mul]
    exact Nat.mul_le_mul (by omega) (by omega)
  have hp : 0 ≤ A * B := Int.mul_nonneg hA hB
  omega
theorem rd_nat (xs : List Int) (i : Nat) (h : i < xs.length) : rd xs (i : Int) = xs[i] := by
  unfold rd
  simp [List.getD_eq_getElem?_getD, List.getElem?_eq_getElem h]
theorem bind_ite {α β : Type} {c : Prop} [Decidable c] (x y : Option α) (f : α → Option β) : (if c then x else y).bind f = if c then x.bind f else y.bind f := by split <;> rfl
theorem unit_of {a d : Int} (h : a * d = 1) : a = 1 ∨ a = -1 := by
  have h1 : a.natAbs * d.natAbs = 1 := by rw [← Int.natAbs_mul, h]; rfl
  have h2 : a.natAbs = 1 := Nat.eq_one_of_mul_eq_one_right h1
  omega
end Go.Proofs.Ytahokioglinpgaa.L

namespace Go.Proofs.Ytahokioglinpgaa.L
open Go.RowKit Go.Proofs.Ytahokioglinpgaa.P Go.Proofs.Ytahokioglinpgaa.Help Go.Proofs.YtahokioglinpgaaW.PrintWords
set_option linter.unusedVariables false
set_option linter.unusedSimpArgs false

theorem toIntS_l0 (xs : List Int) (hx : xs.length ≤ 1000000000000) : ∀ (d k i : Nat) (ys : List Int), i + d = xs.length → d < k → ys.length = xs.length → ys.take i = xs.take i → laws_toIntS.l0 k xs ys (i : Int) = some xs := by
  intro d
  induction d with
  | zero =>
    intro k i ys hi hk hl ht
    obtain ⟨k, rfl⟩ : ∃ m, k = m + 1 := ⟨k - 1, by omega⟩
    simp only [laws_toIntS.l0]
    rw [if_neg (by omega)]
    rw [List.take_of_length_le (by omega), List.take_of_length_le (by omega)] at ht
    rw [ht]
  | succ d ih =>
    intro k i ys hi hk hl ht
    obtain ⟨k, rfl⟩ : ∃ m, k = m + 1 := ⟨k - 1, by omega⟩
    simp only [laws_toIntS.l0]
    rw [if_pos (by omega), if_pos (by omega), if_pos (by omega), w_id (by omega) (by omega), show ((i : Int) + 1) = ((i + 1 : Nat) : Int) by omega, Int.toNat_natCast, rd_nat xs i (by omega)]
    refine ih k (i + 1) _ (by omega) (by omega) (by rw [List.length_set]; exact hl) ?_
    rw [List.take_succ_eq_append_getElem (by rw [List.length_set]; omega), List.take_succ_eq_append_getElem (by omega), List.getElem_set_self, List.take_set_of_le (by omega), ht]
theorem toIntS_f (xs : List Int) (hx : xs.length ≤ 1048576) (k : Nat) (hk : 1048576 < k) : laws_toIntS.f k xs = some xs := by
  unfold laws_toIntS.f
  rw [if_pos (by omega), if_pos (by omega), Int.toNat_natCast]
  exact toIntS_l0 xs (by omega) xs.length k 0 _ (by omega) (by omega) (by simp) (by simp)
theorem eqIntS_l0 (xs : List Int) (hx : xs.length ≤ 1000000000000) : ∀ (d k i : Nat), i + d = xs.length → d < k → laws_eqIntS.l0 k xs xs (i : Int) = some true := by
  intro d
  induction d with
  | zero =>
    intro k i hi hk
    obtain ⟨k, rfl⟩ : ∃ m, k = m + 1 := ⟨k - 1, by omega⟩
    simp only [laws_eqIntS.l0]
    rw [if_neg (by omega)]
  | succ d ih =>
    intro k i hi hk
    obtain ⟨k, rfl⟩ : ∃ m, k = m + 1 := ⟨k - 1, by omega⟩
    simp only [laws_eqIntS.l0]
    rw [if_pos (by omega), if_pos (by omega), if_pos (by omega)]
    simp only [if_true]
    rw [w_id (by omega) (by omega), show ((i : Int) + 1) = ((i + 1 : Nat) : Int) by omega, ih k (i + 1) (by omega) (by omega)]
theorem eqIntS_self (xs : List Int) (hx : xs.length ≤ 1048576) (k : Nat) (hk : 1048576 < k) : laws_eqIntS.f k xs xs = some true := by
  unfold laws_eqIntS.f
  rw [if_pos rfl]
  exact eqIntS_l0 xs (by omega) xs.length k 0 (by omega) (by omega)
end Go.Proofs.Ytahokioglinpgaa.L

namespace Go.Proofs.Ytahokioglinpgaa.L
open Go.RowKit Go.Proofs.Ytahokioglinpgaa.P Go.Proofs.Ytahokioglinpgaa.Help Go.Proofs.YtahokioglinpgaaW.PrintWords
set_option linter.unusedVariables false
set_option linter.unusedSimpArgs false

/-- How many numbers. -/
def tot : List (List Int) → Nat
  | [] => 0
  | r :: rs => r.length + tot rs
theorem rdL_nat (xs : List (List Int)) (i : Nat) (h : i < xs.length) : rd_L1 xs (i : Int) = xs[i] := by
  unfold rd_L1
  simp [List.getD_eq_getElem?_getD, List.getElem?_eq_getElem h]
end Go.Proofs.Ytahokioglinpgaa.L

namespace Go.Proofs.Ytahokioglinpgaa.L
open Go.RowKit Go.Proofs.Ytahokioglinpgaa.P Go.Proofs.Ytahokioglinpgaa.Help Go.Proofs.YtahokioglinpgaaW.PrintWords
set_option linter.unusedVariables false
set_option linter.unusedSimpArgs false

theorem szIntS_f (r : List Int) (hr : r.length ≤ 9223372036854775807) (a : Int) (h0 : 0 ≤ a) (h1 : a ≤ 1048576) : laws_szIntS.f r a = some (if a - r.length < 0 then -1 else a - r.length) := by
  unfold laws_szIntS.f
  rw [w_id (by omega) (by omega)]
  split <;> rfl
theorem szIntSS_l0 (xs : List (List Int)) (hx : xs.length ≤ 1048576) (hr : ∀ r ∈ xs, r.length ≤ 9223372036854775807) : ∀ (d k i : Nat) (a : Int), i + d = xs.length → d < k → 0 ≤ a → a ≤ 1048576 → ∃ t, laws_szIntSS.l0 k xs a (i : Int) = some t ∧ (0 ≤ t → (∀ r ∈ xs.drop i, r.length ≤ 1048576) ∧ t + tot (xs.drop i) = a) := by
  intro d
  induction d with
  | zero =>
    intro k i a hi hk h0 h1
    obtain ⟨k, rfl⟩ : ∃ m, k = m + 1 := ⟨k - 1, by omega⟩
    simp only [laws_szIntSS.l0]
    rw [if_neg (by omega), List.drop_of_length_le (by omega)]
    exact ⟨a, rfl, fun _ => ⟨fun r hr => by simp at hr, by simp [tot]⟩⟩
  | succ d ih =>
    intro k i a hi hk h0 h1
    obtain ⟨k, rfl⟩ : ∃ m, k = m + 1 := ⟨k - 1, by omega⟩
    have hlt : i < xs.length := by omega
    simp only [laws_szIntSS.l0]
    rw [if_pos (by omega), if_pos (by omega), rdL_nat xs i hlt, szIntS_f _ (hr _ (List.getElem_mem hlt)) a h0 h1, Option.bind_some]
    by_cases h : a - (xs[i].length : Int) < 0
    · rw [if_pos h, if_pos (by decide)]
      exact ⟨-1, rfl, fun h => absurd h (by decide)⟩
    · rw [if_neg h, if_neg h, w_id (by omega) (by omega), show ((i : Int) + 1) = ((i + 1 : Nat) : Int) by omega]
      obtain ⟨t, ht, hd⟩ := ih k (i + 1) (a - xs[i].length) (by omega) (by omega) (by omega) (by omega)
      refine ⟨t, ht, fun h2 => ⟨fun r hr => ?_, ?_⟩⟩
      · rw [List.drop_eq_getElem_cons hlt] at hr
        rcases List.mem_cons.1 hr with rfl | hr
        · omega
        · exact (hd h2).1 r hr
      · rw [List.drop_eq_getElem_cons hlt, tot]
        have := (hd h2).2
        omega
theorem szIntSS_f (xs : List (List Int)) (hx : xs.length ≤ 9223372036854775807) (hr : ∀ r ∈ xs, r.length ≤ 9223372036854775807) (a : Int) (h0 : 0 ≤ a) (h1 : a ≤ 1048576) (k : Nat) (hk : 1048577 < k) : ∃ t, laws_szIntSS.f k xs a = some t ∧ (0 ≤ t → xs.length ≤ 1048576 ∧ (∀ r ∈ xs, r.length ≤ 1048576) ∧ tot xs ≤ 1048576) := by
  unfold laws_szIntSS.f
  rw [w_id (by omega) (by omega)]
  by_cases h : a - (xs.length : Int) < 0
  · rw [if_pos h]
    exact ⟨-1, rfl, fun h => absurd h (by decide)⟩
  · rw [if_neg h]
    obtain ⟨t, ht, hd⟩ := szIntSS_l0 xs (by omega) hr xs.length k 0 (a - xs.length) (by omega) (by omega) (by omega) (by omega)
    refine ⟨t, ht, fun h2 => ⟨by omega, ?_⟩⟩
    have := hd h2
    rw [List.drop_zero] at this
    exact ⟨this.1, by omega⟩
theorem toIntSS_l0 (xs : List (List Int)) (hx : xs.length ≤ 1048576) (hr : ∀ r ∈ xs, r.length ≤ 1048576) : ∀ (d k i : Nat) (ys : List (List Int)), i + d = xs.length → d + 1048577 < k → ys.length = xs.length → ys.take i = xs.take i → laws_toIntSS.l0 k xs ys (i : Int) = some xs := by
  intro d
  induction d with
  | zero =>
    intro k i ys hi hk hl ht
    obtain ⟨k, rfl⟩ : ∃ m, k = m + 1 := ⟨k - 1, by omega⟩
    simp only [laws_toIntSS.l0]
    rw [if_neg (by omega)]
    rw [List.take_of_length_le (by omega), List.take_of_length_le (by omega)] at ht
    rw [ht]
  | succ d ih =>
    intro k i ys hi hk hl ht
    obtain ⟨k, rfl⟩ : ∃ m, k = m + 1 := ⟨k - 1, by omega⟩
    have hlt : i < xs.length := by omega
    simp only [laws_toIntSS.l0]
    rw [if_pos (by omega), if_pos (by omega), rdL_nat xs i hlt, toIntS_f _ (hr _ (List.getElem_mem hlt)) k (by omega), Option.bind_some, if_pos (by omega), w_id (by omega) (by omega), show ((i : Int) + 1) = ((i + 1 : Nat) : Int) by omega, Int.toNat_natCast]
    refine ih k (i + 1) _ (by omega) (by omega) (by rw [List.length_set]; exact hl) ?_
    rw [List.take_succ_eq_append_getElem (by rw [List.length_set]; omega), List.take_succ_eq_append_getElem (by omega), List.getElem_set_self, List.take_set_of_le (by omega), ht]
theorem toIntSS_f (xs : List (List Int)) (hx : xs.length ≤ 1048576) (hr : ∀ r ∈ xs, r.length ≤ 1048576) (k : Nat) (hk : 3000000 < k) : laws_toIntSS.f k xs = some xs := by
  unfold laws_toIntSS.f
  rw [if_pos (by omega), if_pos (by omega), Int.toNat_natCast]
  exact toIntSS_l0 xs (by omega) hr xs.length k 0 _ (by omega) (by omega) (by simp) (by simp)
theorem eqIntSS_l0 (xs : List (List Int)) (hx : xs.length ≤ 1048576) (hr : ∀ r ∈ xs, r.length ≤ 1048576) : ∀ (d k i : Nat), i + d = xs.length → d + 1048577 < k → laws_eqIntSS.l0 k xs xs (i : Int) = some true := by
  intro d
  induction d with
  | zero =>
    intro k i hi hk
    obtain ⟨k, rfl⟩ : ∃ m, k = m + 1 := ⟨k - 1, by omega⟩
    simp only [laws_eqIntSS.l0]
    rw [if_neg (by omega)]
  | succ d ih =>
    intro k i hi hk
    obtain ⟨k, rfl⟩ : ∃ m, k = m + 1 := ⟨k - 1, by omega⟩
    have hlt : i < xs.length := by omega
    simp only [laws_eqIntSS.l0]
    rw [if_pos (by omega), if_pos (by omega), if_pos (by omega), rdL_nat xs i hlt, eqIntS_self _ (hr _ (List.getElem_mem hlt)) k (by omega), Option.bind_some]
    rw [if_pos rfl, w_id (by omega) (by omega), show ((i : Int) + 1) = ((i + 1 : Nat) : Int) by omega, ih k (i + 1) (by omega) (by omega)]
theorem eqIntSS_self (xs : List (List Int)) (hx : xs.length ≤ 1048576) (hr : ∀ r ∈ xs, r.length ≤ 1048576) (k : Nat) (hk : 3000000 < k) : laws_eqIntSS.f k xs xs = some true := by
  unfold laws_eqIntSS.f
  rw [if_pos rfl]
  exact eqIntSS_l0 xs (by omega) hr xs.length k 0 (by omega) (by omega)
end Go.Proofs.Ytahokioglinpgaa.L

namespace Go.Proofs.Ytahokioglinpgaa.L
open Go.RowKit Go.Proofs.Ytahokioglinpgaa.P Go.Proofs.Ytahokioglinpgaa.Help Go.Proofs.YtahokioglinpgaaW.PrintWords
set_option linter.unusedVariables false
set_option linter.unusedSimpArgs false

theorem l1In_eq (a lo hi : Int) : spec_l1In.f a lo hi = some (decide (lo ≤ a ∧ a ≤ hi)) := by
  unfold spec_l1In.f
  by_cases h : lo ≤ a <;> simp [h]
theorem within_eq (a lo hi : Int) : impl_within.f a lo hi = some (decide (lo ≤ a ∧ a ≤ hi)) := by
  unfold impl_within.f
  by_cases h : lo ≤ a <;> simp [h]
end Go.Proofs.Ytahokioglinpgaa.L

namespace Go.Proofs.Ytahokioglinpgaa.L
open Go.RowKit Go.Proofs.Ytahokioglinpgaa.P Go.Proofs.Ytahokioglinpgaa.Help Go.Proofs.YtahokioglinpgaaW.PrintWords
set_option linter.unusedVariables false
set_option linter.unusedSimpArgs false

/-- The letters of a row, put to those that are seen. -/
def rowR (n : Int) : List Int → List Int → Option (List Int)
  | seen, [] => some seen
  | seen, x :: xs => if x ≠ 0 ∧ (-n ≤ x ∧ x ≤ n) ∧ x ∉ seen then rowR n (x :: seen) xs else none
def triR (n : Int) : List Int → List (List Int) → Bool
  | _, [] => true
  | seen, r :: rs => if r.length = 3 then (match rowR n seen r with | some s => triR n s rs | none => false) else false
/-- The number of edges. -/
def edges (t : List (List Int)) : Int := wrap64 (Int.tdiv (wrap64 (3 * (t.length : Int))) 2)
def isT (t : List (List Int)) : Bool := if (t.length : Int) % 2 = 0 ∧ 3 ≤ edges t ∧ edges t ≤ 9 then triR (edges t) [] t else false

theorem impl_tri_l1 (t : List (List Int)) (n : Int) (hn : 3 ≤ n ∧ n ≤ 9) (i : Nat) (hi : i < t.length) (hl : t[i].length = 3) : ∀ (d j k : Nat) (seen : List Int), j + d = 3 → d < k →
    impl_IsTriangulation.l1 k t n seen (i : Int) (j : Int) = (match rowR n seen (t[i].drop j) with | some s => impl_IsTriangulation.l0 (k - d - 1) t n s (wrap64 ((i : Int) + 1)) | none => some false) := by
  intro d
  induction d with
  | zero =>
    intro j k seen hj hk
    obtain ⟨k, rfl⟩ : ∃ m, k = m + 1 := ⟨k - 1, by omega⟩
    simp only [impl_IsTriangulation.l1]
    rw [rdL_nat t i hi, if_neg (by omega), List.drop_of_length_le (by omega)]
    rfl
  | succ d ih =>
    intro j k seen hj hk
    obtain ⟨k, rfl⟩ : ∃ m, k = m + 1 := ⟨k - 1, by omega⟩
    have hlt : j < t[i].length := by omega
    simp only [impl_IsTriangulation.l1]
    rw [rdL_nat t i hi, if_pos (by omega), if_pos (by omega), rd_nat _ j hlt, within_eq, Option.bind_some, w_id (a := -n) (by omega) (by omega), List.drop_eq_getElem_cons hlt]
    by_cases h1 : t[i][j] = 0
    · rw [if_pos h1]
      simp [rowR, h1]
    · rw [if_neg h1]
      by_cases h2 : -n ≤ t[i][j] ∧ t[i][j] ≤ n
      · rw [if_pos (by simpa using h2)]
        by_cases h3 : t[i][j] ∈ seen
        · rw [if_pos h3]
          simp [rowR, h3]
        · rw [if_neg h3, w_id (a := (j : Int) + 1) (by omega) (by omega), show ((j : Int) + 1) = ((j + 1 : Nat) : Int) by omega, ih (j + 1) k _ (by omega) (by omega), rowR, if_pos ⟨h1, h2, h3⟩, show k + 1 - (d + 1) - 1 = k - d - 1 by omega]
      · rw [if_neg (by simpa using h2), rowR, if_neg (fun h => h2 h.2.1)]
theorem impl_tri_l0 (t : List (List Int)) (ht : t.length ≤ 1048600) (n : Int) (hn : 3 ≤ n ∧ n ≤ 9) : ∀ (d i k : Nat) (seen : List Int), i + d = t.length → 5 * d < k →
    impl_IsTriangulation.l0 k t n seen (i : Int) = some (triR n seen (t.drop i)) := by
  intro d
  induction d with
  | zero =>
    intro i k seen hi hk
    obtain ⟨k, rfl⟩ : ∃ m, k = m + 1 := ⟨k - 1, by omega⟩
    simp only [impl_IsTriangulation.l0]
    rw [if_neg (by omega), List.drop_of_length_le (by omega)]
    rfl
  | succ d ih =>
    intro i k seen hi hk
    obtain ⟨k, rfl⟩ : ∃ m, k = m + 1 := ⟨k - 1, by omega⟩
    have hlt : i < t.length := by omega
    simp only [impl_IsTriangulation.l0]
    rw [if_pos (by omega), if_pos (by omega), rdL_nat t i hlt, List.drop_eq_getElem_cons hlt, triR]
    by_cases h1 : t[i].length = 3
    · have := impl_tri_l1 t n hn i hlt h1 3 0 k seen (by omega) (by omega)
      rw [if_pos (by omega), if_pos h1, show (0 : Int) = ((0 : Nat) : Int) from rfl, this, List.drop_zero]
      cases rowR n seen t[i] with
      | none => rfl
      | some s =>
        show impl_IsTriangulation.l0 _ t n s _ = some (triR n s _)
        rw [w_id (by omega) (by omega), show ((i : Int) + 1) = ((i + 1 : Nat) : Int) by omega, ih (i + 1) _ s (by omega) (by omega)]
    · rw [if_neg (by omega), if_neg h1]
theorem impl_isT' (t : List (List Int)) (ht : t.length ≤ 1048600) (k : Nat) (hk : 6000000 < k) : impl_IsTriangulation.f k t = some (isT t) := by
  obtain ⟨k, rfl⟩ : ∃ m, k = m + 1 := ⟨k - 1, by omega⟩
  unfold impl_IsTriangulation.f
  rw [within_eq, Option.bind_some]
  unfold isT edges
  by_cases h1 : (t.length : Int) % 2 = 0
  · rw [if_pos h1]
    simp only [impl_IsTriangulation.j0]
    by_cases h2 : 3 ≤ wrap64 (Int.tdiv (wrap64 (3 * (t.length : Int))) 2) ∧ wrap64 (Int.tdiv (wrap64 (3 * (t.length : Int))) 2) ≤ 9
    · rw [if_neg (by simpa using h2), if_pos ⟨h1, h2⟩]
      have := impl_tri_l0 t ht _ h2 t.length 0 k [] (by omega) (by omega)
      rw [List.drop_zero] at this
      exact this
    · rw [if_pos (by rw [decide_eq_false h2]; rfl), if_neg (fun h => h2 h.2)]
  · rw [if_neg h1]
    simp only [impl_IsTriangulation.j0]
    rw [if_pos trivial, if_neg (fun h => h1 h.1)]
/-- What is marked is what is seen. -/
def Marks (n : Int) (x4 : List Bool) (seen : List Int) : Prop := (x4.length : Int) = 2 * n + 1 ∧ ∀ y, -n ≤ y → y ≤ n → rdOf false x4 (n + y) = decide (y ∈ seen)
theorem Marks.put {n : Int} {x4 : List Bool} {seen : List Int} (h : Marks n x4 seen) {x : Int} (hx : -n ≤ x ∧ x ≤ n) : Marks n (x4.set (n + x).toNat true) (x :: seen) := by
  obtain ⟨h1, h2⟩ := h
  refine ⟨by rw [List.length_set]; exact h1, fun y hy1 hy2 => ?_⟩
  have h3 := h2 y hy1 hy2
  unfold rdOf at h3 ⊢
  rw [List.getD_eq_getElem?_getD] at h3 ⊢
  rw [List.getElem?_set]
  by_cases e : (n + x).toNat = (n + y).toNat
  · have : x = y := by omega
    subst this
    rw [if_pos rfl, if_pos (by omega)]
    simp
  · have hne : y ≠ x := fun e' => e (by rw [e'])
    rw [if_neg e, h3]
    simp [hne]
theorem Marks.made {n : Int} (hn : 0 ≤ n) : Marks n (List.replicate (2 * n + 1).toNat false) [] := by
  refine ⟨by rw [List.length_replicate]; omega, fun y _ _ => ?_⟩
  unfold rdOf
  rw [List.getD_eq_getElem?_getD, List.getElem?_replicate]
  split <;> simp
theorem spec_tri_l1 (t : List (List Int)) (n : Int) (hn : 3 ≤ n ∧ n ≤ 9) (i : Nat) (hi : i < t.length) (hl : t[i].length = 3) : ∀ (d j k : Nat) (x4 : List Bool) (seen : List Int), Marks n x4 seen → j + d = 3 → d < k →
    (rowR n seen (t[i].drop j) = none ∧ spec_IsTriangulation.l1 k t n x4 (i : Int) (j : Int) = some false) ∨ ∃ s x4', rowR n seen (t[i].drop j) = some s ∧ Marks n x4' s ∧ spec_IsTriangulation.l1 k t n x4 (i : Int) (j : Int) = spec_IsTriangulation.l0 (k - d - 1) t n x4' (wrap64 ((i : Int) + 1)) := by
  intro d
  induction d with
  | zero =>
    intro j k x4 seen hm hj hk
    obtain ⟨k, rfl⟩ : ∃ m, k = m + 1 := ⟨k - 1, by omega⟩
    simp only [spec_IsTriangulation.l1]
    rw [if_neg (by omega), List.drop_of_length_le (by omega)]
    exact .inr ⟨seen, x4, rfl, hm, rfl⟩
  | succ d ih =>
    intro j k x4 seen hm hj hk
    obtain ⟨k, rfl⟩ : ∃ m, k = m + 1 := ⟨k - 1, by omega⟩
    have hlt : j < t[i].length := by omega
    simp only [spec_IsTriangulation.l1]
    rw [if_pos (by omega), if_pos (by omega), if_pos (by omega), if_pos (by omega), rdL_nat t i hi, if_pos (by omega), rd_nat _ j hlt, l1In_eq, Option.bind_some, w_id (a := -n) (by omega) (by omega), List.drop_eq_getElem_cons hlt]
    by_cases h1 : t[i][j] = 0
    · rw [if_pos h1]
      exact .inl ⟨by simp [rowR, h1], rfl⟩
    · rw [if_neg h1]
      by_cases h2 : -n ≤ t[i][j] ∧ t[i][j] ≤ n
      · have hx := hm.2 _ h2.1 h2.2
        have hlen := hm.1
        rw [if_pos (by simpa using h2), w_id (a := n + t[i][j]) (by omega) (by omega), if_pos (by omega), if_pos (by omega), hx]
        by_cases h3 : t[i][j] ∈ seen
        · rw [if_pos (by simpa using h3)]
          exact .inl ⟨by simp [rowR, h3], rfl⟩
        · rw [if_neg (by simpa using h3), w_id (a := (j : Int) + 1) (by omega) (by omega), show ((j : Int) + 1) = ((j + 1 : Nat) : Int) by omega, rowR, if_pos ⟨h1, h2, h3⟩, show k + 1 - (d + 1) - 1 = k - d - 1 by omega]
          exact ih (j + 1) k _ _ (hm.put h2) (by omega) (by omega)
      · rw [if_neg (by simpa using h2), rowR, if_neg (fun h => h2 h.2.1)]
        exact .inl ⟨rfl, rfl⟩
theorem spec_tri_l0 (t : List (List Int)) (ht : t.length ≤ 1048600) (n : Int) (hn : 3 ≤ n ∧ n ≤ 9) : ∀ (d i k : Nat) (x4 : List Bool) (seen : List Int), Marks n x4 seen → i + d = t.length → 5 * d < k →
    spec_IsTriangulation.l0 k t n x4 (i : Int) = some (triR n seen (t.drop i)) := by
  intro d
  induction d with
  | zero =>
    intro i k x4 seen hm hi hk
    obtain ⟨k, rfl⟩ : ∃ m, k = m + 1 := ⟨k - 1, by omega⟩
    simp only [spec_IsTriangulation.l0]
    rw [if_neg (by omega), List.drop_of_length_le (by omega)]
    rfl
  | succ d ih =>
    intro i k x4 seen hm hi hk
    obtain ⟨k, rfl⟩ : ∃ m, k = m + 1 := ⟨k - 1, by omega⟩
    have hlt : i < t.length := by omega
    simp only [spec_IsTriangulation.l0]
    rw [if_pos (by omega), if_pos (by omega), rdL_nat t i hlt, List.drop_eq_getElem_cons hlt, triR]
    by_cases h1 : t[i].length = 3
    · rw [if_pos (by omega), if_pos h1, show (0 : Int) = ((0 : Nat) : Int) from rfl]
      rcases spec_tri_l1 t n hn i hlt h1 3 0 k x4 seen hm (by omega) (by omega) with ⟨h2, h3⟩ | ⟨s, x4', h2, h3, h4⟩
      · rw [h3]
        rw [List.drop_zero] at h2
        rw [h2]
      · rw [h4]
        rw [List.drop_zero] at h2
        rw [h2, w_id (by omega) (by omega), show ((i : Int) + 1) = ((i + 1 : Nat) : Int) by omega]
        exact ih (i + 1) _ x4' s h3 (by omega) (by omega)
    · rw [if_neg (by omega), if_neg h1]
theorem spec_isT' (t : List (List Int)) (ht : t.length ≤ 1048600) (k : Nat) (hk : 6000000 < k) : spec_IsTriangulation.f k t = some (isT t) := by
  obtain ⟨k, rfl⟩ : ∃ m, k = m + 1 := ⟨k - 1, by omega⟩
  unfold spec_IsTriangulation.f
  rw [l1In_eq, Option.bind_some]
  unfold isT edges
  by_cases h1 : (t.length : Int) % 2 = 0
  · rw [if_pos h1]
    simp only [spec_IsTriangulation.j0]
    by_cases h2 : 3 ≤ wrap64 (Int.tdiv (wrap64 (3 * (t.length : Int))) 2) ∧ wrap64 (Int.tdiv (wrap64 (3 * (t.length : Int))) 2) ≤ 9
    · obtain ⟨n, hn⟩ : ∃ n : Int, wrap64 (Int.tdiv (wrap64 (3 * (t.length : Int))) 2) = n := ⟨_, rfl⟩
      rw [hn] at h2 ⊢
      rw [if_neg (by simpa using h2), if_pos (show (t.length : Int) % 2 = 0 ∧ 3 ≤ n ∧ n ≤ 9 from ⟨h1, h2⟩), w_id (a := 2 * n) (by omega) (by omega), w_id (a := 2 * n + 1) (by omega) (by omega), if_pos (by omega), if_pos (by omega)]
      have := spec_tri_l0 t ht n h2 t.length 0 k _ [] (Marks.made (by omega)) (by omega) (by omega)
      rw [List.drop_zero] at this
      exact this
    · rw [if_pos (by rw [decide_eq_false h2]; rfl), if_neg (fun h => h2 h.2)]
  · rw [if_neg h1]
    simp only [spec_IsTriangulation.j0]
    rw [if_pos trivial, if_neg (fun h => h1 h.1)]
theorem impl_isT (t : List (List Int)) (ht : t.length ≤ 1048576) (k : Nat) (hk : 6000000 < k) : impl_IsTriangulation.f k t = some (isT t) := impl_isT' t (by omega) k hk
theorem spec_isT (t : List (List Int)) (ht : t.length ≤ 1048576) (k : Nat) (hk : 6000000 < k) : spec_IsTriangulation.f k t = some (isT t) := spec_isT' t (by omega) k hk
end Go.Proofs.Ytahokioglinpgaa.L


namespace Go.Proofs.Ytahokioglinpgaa.L
open Go.RowKit Go.Proofs.Ytahokioglinpgaa.P Go.Proofs.Ytahokioglinpgaa.Help Go.Proofs.YtahokioglinpgaaW.PrintWords
set_option linter.unusedVariables false
set_option linter.unusedSimpArgs false

theorem rowR_some {n : Int} : ∀ {r seen s : List Int}, rowR n seen r = some s → (∀ x ∈ r, x ≠ 0 ∧ -n ≤ x ∧ x ≤ n) ∧ r.Nodup ∧ (∀ x ∈ r, x ∉ seen) ∧ ∀ x, x ∈ s ↔ x ∈ r ∨ x ∈ seen
  | [], seen, s, h => by
    have e : seen = s := Option.some.inj h
    subst e
    simp
  | y :: ys, seen, s, h => by
    rw [rowR] at h
    by_cases c : y ≠ 0 ∧ (-n ≤ y ∧ y ≤ n) ∧ y ∉ seen
    · rw [if_pos c] at h
      obtain ⟨h1, h2, h3, h4⟩ := rowR_some h
      refine ⟨fun x hx => ?_, List.nodup_cons.2 ⟨fun hy => h3 y hy List.mem_cons_self, h2⟩, fun x hx hs => ?_, fun x => ?_⟩
      · rcases List.mem_cons.1 hx with rfl | hx
        · exact ⟨c.1, c.2.1⟩
        · exact h1 x hx
      · rcases List.mem_cons.1 hx with rfl | hx
        · exact c.2.2 hs
        · exact h3 x hx (List.mem_cons_of_mem _ hs)
      · rw [h4 x, List.mem_cons, List.mem_cons]
        constructor
        · rintro (h | h | h)
          · exact .inl (.inr h)
          · exact .inl (.inl h)
          · exact .inr h
        · rintro ((h | h) | h)
          · exact .inr (.inl h)
          · exact .inl h
          · exact .inr (.inr h)
    · rw [if_neg c] at h
      exact absurd h (by simp)
theorem triR_true {n : Int} : ∀ {rows : List (List Int)} {seen : List Int}, triR n seen rows = true → (∀ r ∈ rows, r.length = 3) ∧ (∀ x ∈ rows.flatten, x ≠ 0 ∧ -n ≤ x ∧ x ≤ n) ∧ rows.flatten.Nodup ∧ ∀ x ∈ rows.flatten, x ∉ seen
  | [], seen, _ => by simp
  | r :: rs, seen, h => by
    rw [triR] at h
    by_cases c : r.length = 3
    · rw [if_pos c] at h
      cases hr : rowR n seen r with
      | none => rw [hr] at h; exact absurd h (by simp)
      | some s =>
        rw [hr] at h
        obtain ⟨h1, h2, h3, h4⟩ := rowR_some hr
        obtain ⟨g1, g2, g3, g4⟩ := triR_true (show triR n s rs = true from h)
        refine ⟨fun x hx => ?_, fun x hx => ?_, ?_, fun x hx hs => ?_⟩
        · rcases List.mem_cons.1 hx with rfl | hx
          · exact c
          · exact g1 x hx
        · rw [List.flatten_cons, List.mem_append] at hx
          rcases hx with hx | hx
          · exact h1 x hx
          · exact g2 x hx
        · rw [List.flatten_cons]
          refine List.nodup_append.2 ⟨h2, g3, fun a ha b hb e => ?_⟩
          subst e
          exact g4 a hb ((h4 a).2 (.inl ha))
        · rw [List.flatten_cons, List.mem_append] at hx
          rcases hx with hx | hx
          · exact h3 x hx hs
          · exact g4 x hx ((h4 x).2 (.inr hs))
    · rw [if_neg c] at h
      exact absurd h (by simp)
/-- A triangulation with n edges. -/
structure TriOk (t : List (List Int)) (n : Int) : Prop where
  n3 : 3 ≤ n
  n9 : n ≤ 9
  len : 3 * (t.length : Int) = 2 * n
  row : ∀ r ∈ t, r.length = 3
  inr : ∀ x ∈ t.flatten, x ≠ 0 ∧ -n ≤ x ∧ x ≤ n
  nodup : t.flatten.Nodup
theorem edges_eq {t : List (List Int)} (ht : t.length ≤ 1048600) : edges t = 3 * (t.length : Int) / 2 := by
  unfold edges
  rw [w_id (a := 3 * (t.length : Int)) (by omega) (by omega), Int.tdiv_eq_ediv_of_nonneg (by omega), w_id (by omega) (by omega)]
theorem isT_ok' {t : List (List Int)} (ht : t.length ≤ 1048600) (h : isT t = true) : TriOk t (edges t) := by
  unfold isT at h
  by_cases c : (t.length : Int) % 2 = 0 ∧ 3 ≤ edges t ∧ edges t ≤ 9
  · rw [if_pos c] at h
    obtain ⟨h1, h2, h3, _⟩ := triR_true h
    have e := edges_eq ht
    exact ⟨c.2.1, c.2.2, by omega, h1, h2, h3⟩
  · rw [if_neg c] at h
    exact absurd h (by simp)
theorem isT_ok {t : List (List Int)} (ht : t.length ≤ 1048576) (h : isT t = true) : TriOk t (edges t) := isT_ok' (by omega) h
theorem TriOk.short {t : List (List Int)} {n : Int} (h : TriOk t n) : t.length ≤ 6 ∧ 2 ≤ t.length := by
  have := h.n3
  have := h.n9
  have := h.len
  omega
theorem TriOk.at {t : List (List Int)} {n : Int} (h : TriOk t n) {i j : Nat} (hi : i < t.length) (hj : j < t[i].length) : t[i][j] ≠ 0 ∧ -n ≤ t[i][j] ∧ t[i][j] ≤ n :=
  h.inr _ (List.mem_flatten.2 ⟨t[i], List.getElem_mem hi, List.getElem_mem hj⟩)
theorem TriOk.three {t : List (List Int)} {n : Int} (h : TriOk t n) {i : Nat} (hi : i < t.length) : t[i].length = 3 := h.row _ (List.getElem_mem hi)
theorem TriOk.i64 {t : List (List Int)} {n : Int} (h : TriOk t n) {r : List Int} (hr : r ∈ t) : ∃ a b c, r = [a, b, c] ∧ (a ≠ 0 ∧ -n ≤ a ∧ a ≤ n) ∧ (b ≠ 0 ∧ -n ≤ b ∧ b ≤ n) ∧ (c ≠ 0 ∧ -n ≤ c ∧ c ≤ n) := by
  have hl := h.row r hr
  match r, hl with
  | [a, b, c], _ =>
    exact ⟨a, b, c, rfl, h.inr _ (List.mem_flatten.2 ⟨_, hr, by simp⟩), h.inr _ (List.mem_flatten.2 ⟨_, hr, by simp⟩), h.inr _ (List.mem_flatten.2 ⟨_, hr, by simp⟩)⟩
end Go.Proofs.Ytahokioglinpgaa.L

namespace Go.Proofs.Ytahokioglinpgaa.L
open Go.RowKit Go.Proofs.Ytahokioglinpgaa.P Go.Proofs.Ytahokioglinpgaa.Help Go.Proofs.YtahokioglinpgaaW.PrintWords Go.Proofs.YtahokioglinpgaaW.PrintLast Go.Proofs.YtahokioglinpgaaW.PrintMore
set_option linter.unusedVariables false
set_option linter.unusedSimpArgs false

/-- The letter of a side. -/
def ltT (x : Int) : ByteArray := if x > 0 then (⟨#[97, 98, 99, 100, 101, 102, 103, 104, 105]⟩ : ByteArray).extract (x - 1).toNat x.toNat else (⟨#[65, 66, 67, 68, 69, 70, 71, 72, 73]⟩ : ByteArray).extract (-x - 1).toNat (-x).toNat
theorem ltT_size (x : Int) : (ltT x).size ≤ 1 := by
  unfold ltT
  split <;> (rw [ByteArray.size_extract]; omega)
theorem letP : ∀ i : Fin 9, impl_letterText.f (((i : Nat) : Int) + 1) = some (ltT (((i : Nat) : Int) + 1)) := by decide +kernel
theorem letN : ∀ i : Fin 9, impl_letterText.f (-(((i : Nat) : Int) + 1)) = some (ltT (-(((i : Nat) : Int) + 1))) := by decide +kernel
theorem let_f {x : Int} (h0 : x ≠ 0) (h1 : -9 ≤ x) (h2 : x ≤ 9) : impl_letterText.f x = some (ltT x) := by
  rcases Int.lt_or_le 0 x with h | h
  · have := letP ⟨(x - 1).toNat, by omega⟩
    dsimp only at this
    rwa [show (((x - 1).toNat : Int) + 1) = x by omega] at this
  · have := letN ⟨(-x - 1).toNat, by omega⟩
    dsimp only at this
    rwa [show -(((-x - 1).toNat : Int) + 1) = x by omega] at this
def pre (r : List Int) : Nat → ByteArray
  | 0 => ⟨#[]⟩
  | j + 1 => pre r j ++ ltT (r.getD j 0)
theorem pre_size (r : List Int) : ∀ j, (pre r j).size ≤ j
  | 0 => Nat.le_refl _
  | j + 1 => by
    have := pre_size r j
    have := ltT_size (r.getD j 0)
    rw [pre, ByteArray.size_append]
    omega
theorem getD_t {w : List Int} {i : Nat} (h : i < w.length) : w.getD i 0 = w[i] := by
  rw [List.getD_eq_getElem?_getD, List.getElem?_eq_getElem h]
  rfl
theorem spec_tt_row {t : List (List Int)} {n : Int} (ok : TriOk t n) {i : Nat} (hi : i < t.length) (out : List ByteArray) (ho : out.length ≤ 10) : ∀ (d k j : Nat), j + d = 3 → d < k → spec_TriText.l1 k t out (i : Int) (pre t[i] j) (j : Int) = spec_TriText.l0 (k - d - 1) t (out ++ [pre t[i] 3]) ((i + 1 : Nat) : Int)
  | 0, k, j, hj, hk => by
    obtain ⟨k, rfl⟩ : ∃ m, k = m + 1 := ⟨k - 1, by omega⟩
    have hs := ok.short
    obtain rfl : j = 3 := by omega
    conv => lhs; unfold spec_TriText.l1
    rw [if_neg (by omega), if_pos (by omega), w_id (by omega) (by omega), show ((i : Int) + 1) = ((i + 1 : Nat) : Int) by omega, show k + 1 - 0 - 1 = k by omega]
  | d + 1, k, j, hj, hk => by
    obtain ⟨k, rfl⟩ : ∃ m, k = m + 1 := ⟨k - 1, by omega⟩
    have hs := ok.short
    have h3 := ok.three hi
    have hlt : j < t[i].length := by omega
    have n9 := ok.n9
    obtain ⟨x0, x1, x2⟩ := ok.at hi hlt
    have ih := spec_tt_row ok hi out ho d k (j + 1) (by omega) (by omega)
    have hp := pre_size t[i] j
    rw [pre, getD_t hlt] at ih
    have hsz := ltT_size t[i][j]
    conv => lhs; unfold spec_TriText.l1
    rw [if_pos (by omega), if_pos (by omega), if_pos (by omega), if_pos (by omega), rdL_nat t i hi, if_pos (by omega), rd_nat _ j hlt, show k + 1 - (d + 1) - 1 = k - d - 1 by omega]
    have ej : ((j : Int) + 1) = ((j + 1 : Nat) : Int) := by omega
    by_cases h : t[i][j] > 0
    · have e : ltT t[i][j] = (⟨#[97, 98, 99, 100, 101, 102, 103, 104, 105]⟩ : ByteArray).extract (t[i][j] - 1).toNat (t[i][j]).toNat := by unfold ltT; rw [if_pos h]
      rw [if_pos h, w_id (a := t[i][j] - 1) (by omega) (by omega), if_pos (by omega), if_pos (by omega), if_pos (by omega), ← e, if_pos (by omega), w_id (a := (j : Int) + 1) (by omega) (by omega), ej]
      exact ih
    · have e : ltT t[i][j] = (⟨#[65, 66, 67, 68, 69, 70, 71, 72, 73]⟩ : ByteArray).extract (-t[i][j] - 1).toNat (-t[i][j]).toNat := by unfold ltT; rw [if_neg h]
      rw [if_neg h, w_id (a := -t[i][j]) (by omega) (by omega), w_id (a := -t[i][j] - 1) (by omega) (by omega), if_pos (by omega), if_pos (by omega), if_pos (by omega), ← e, if_pos (by omega), w_id (a := (j : Int) + 1) (by omega) (by omega), ej]
      exact ih
theorem impl_tt_row {t : List (List Int)} {n : Int} (ok : TriOk t n) {i : Nat} (hi : i < t.length) (out : List ByteArray) (ho : out.length ≤ 10) : ∀ (d k j : Nat), j + d = 3 → d < k → impl_TriText.l1 k out (pre t[i] j) t (t.length : Int) (i : Int) t[i] (t[i].length : Int) (j : Int) = impl_TriText.l0 (k - d - 1) (out ++ [pre t[i] 3]) t (t.length : Int) ((i + 1 : Nat) : Int)
  | 0, k, j, hj, hk => by
    obtain ⟨k, rfl⟩ : ∃ m, k = m + 1 := ⟨k - 1, by omega⟩
    have hs := ok.short
    have h3 := ok.three hi
    obtain rfl : j = 3 := by omega
    conv => lhs; unfold impl_TriText.l1
    rw [if_neg (by omega), if_pos (by omega), w_id (by omega) (by omega), show ((i : Int) + 1) = ((i + 1 : Nat) : Int) by omega, show k + 1 - 0 - 1 = k by omega]
  | d + 1, k, j, hj, hk => by
    obtain ⟨k, rfl⟩ : ∃ m, k = m + 1 := ⟨k - 1, by omega⟩
    have hs := ok.short
    have h3 := ok.three hi
    have hlt : j < t[i].length := by omega
    have n9 := ok.n9
    obtain ⟨x0, x1, x2⟩ := ok.at hi hlt
    have ih := impl_tt_row ok hi out ho d k (j + 1) (by omega) (by omega)
    have hp := pre_size t[i] j
    rw [pre, getD_t hlt] at ih
    have hsz := ltT_size t[i][j]
    have ej : ((j : Int) + 1) = ((j + 1 : Nat) : Int) := by omega
    conv => lhs; unfold impl_TriText.l1
    rw [if_pos (by omega), if_pos (by omega), if_pos (by omega), rd_nat _ j hlt, let_f x0 (by omega) (by omega), Option.bind_some, if_pos (by omega), w_id (a := (j : Int) + 1) (by omega) (by omega), ej, show k + 1 - (d + 1) - 1 = k - d - 1 by omega]
    exact ih
def texts (t : List (List Int)) : List ByteArray := t.map fun r => pre r 3
theorem texts_len (t : List (List Int)) : (texts t).length = t.length := by simp [texts]
theorem texts_at (t : List (List Int)) {i : Nat} (h : i < (texts t).length) : (texts t)[i] = pre (t[i]'(by rw [texts_len] at h; exact h)) 3 := by simp [texts]
def sp : ByteArray := ⟨#[32]⟩
/-- The texts joined, up to a place. -/
def JJ (L : List ByteArray) (i : Nat) : List UInt8 := Lib.join ((L.take i).map (·.data.toList)) sp.data.toList
theorem JJ_one (L : List ByteArray) (h : 0 < L.length) : JJ L 1 = L[0].data.toList := by
  unfold JJ
  match L, h with
  | x :: r, _ => simp [Lib.join_one]
theorem JJ_succ (L : List ByteArray) {i : Nat} (h0 : 0 < i) (h : i < L.length) : JJ L (i + 1) = JJ L i ++ (sp.data.toList ++ L[i].data.toList) := by
  unfold JJ
  match L, i, h0, h with
  | x :: r, i + 1, _, h =>
    have h' : i < r.length := by simpa using h
    rw [List.take_succ_cons, List.take_succ_cons, List.map_cons, List.map_cons, Lib.join_cons, Lib.join_cons, List.append_assoc]
    congr 1
    have := Lib.joinTail_take_succ sp.data.toList (r.map (·.data.toList)) i (r[i].data.toList) (by rw [List.getElem?_map, List.getElem?_eq_getElem h']; rfl)
    rw [List.map_take, List.map_take, this, List.append_assoc]
    rfl
theorem dat_len (s : ByteArray) : s.data.toList.length = s.size := by rw [Array.length_toList]; rfl
theorem JJ_len {L : List ByteArray} (hL : ∀ s ∈ L, s.size ≤ 3) : ∀ i, i ≤ L.length → (JJ L i).length ≤ 4 * i
  | 0, _ => by simp [JJ, Lib.join_nil]
  | 1, h => by
    rw [JJ_one L (by omega), dat_len]
    have := hL L[0] (List.getElem_mem (by omega))
    omega
  | i + 2, h => by
    have ih := JJ_len hL (i + 1) (by omega)
    have := hL L[i + 1] (List.getElem_mem (by omega))
    rw [JJ_succ L (by omega) (by omega), List.length_append, List.length_append, dat_len, dat_len]
    have : sp.size = 1 := rfl
    omega
def bL (l : List UInt8) : List Int := l.map fun b => (b.toNat : Int)
theorem bL_app (a b : List UInt8) : bL (a ++ b) = bL a ++ bL b := by simp [bL]
theorem bL_len (a : List UInt8) : (bL a).length = a.length := by simp [bL]
theorem str_bL (l : List UInt8) : strOfNums (bL l) = ⟨l.toArray⟩ := by
  unfold strOfNums bL
  rw [List.map_map]
  congr 2
  conv => rhs; rw [← List.map_id l]
  apply List.map_congr_left
  intro b _
  simp
theorem rdOf_at (L : List ByteArray) {i : Nat} (h : i < L.length) : rdOf ByteArray.empty L (i : Int) = L[i] := by
  unfold rdOf
  rw [Int.toNat_natCast, List.getD_eq_getElem?_getD, List.getElem?_eq_getElem h]
  rfl
theorem spec_join {L : List ByteArray} (h6 : L.length ≤ 10) (hL : ∀ s ∈ L, s.size ≤ 3) : ∀ (d k i : Nat), i + d = L.length → d < k → spec_Join.l0 k L sp (bL (JJ L i)) (i : Int) = some (⟨(JJ L L.length).toArray⟩ : ByteArray)
  | 0, k, i, hi, hk => by
    obtain ⟨k, rfl⟩ : ∃ m, k = m + 1 := ⟨k - 1, by omega⟩
    conv => lhs; unfold spec_Join.l0
    rw [if_neg (by omega), str_bL, show i = L.length by omega]
  | d + 1, k, i, hi, hk => by
    obtain ⟨k, rfl⟩ : ∃ m, k = m + 1 := ⟨k - 1, by omega⟩
    have hlt : i < L.length := by omega
    have hl := JJ_len hL i (by omega)
    have hz := hL L[i] (List.getElem_mem hlt)
    have ih := spec_join h6 hL d k (i + 1) (by omega) (by omega)
    have es : sp.size = 1 := rfl
    have ei1 : ((i : Int) + 1) = ((i + 1 : Nat) : Int) := by omega
    have eb : bytesOf sp = bL sp.data.toList := rfl
    have ei : bytesOf L[i] = bL L[i].data.toList := rfl
    conv => lhs; unfold spec_Join.l0
    rw [if_pos (by omega), rdOf_at L hlt, w_id (a := (i : Int) + 1) (by omega) (by omega), ei1]
    by_cases h0 : i = 0
    · subst h0
      have e0 : JJ L 0 = [] := rfl
      rw [if_neg (by omega), if_pos (by omega), if_pos (by rw [e0, bL_len]; simp; omega), e0, ei]
      rw [JJ_one L hlt] at ih
      exact ih
    · rw [if_pos (by omega), if_pos (by rw [bL_len]; omega), Option.bind_some, if_pos (by omega), if_pos (by rw [List.length_append, bL_len, eb, bL_len, dat_len]; omega), eb, ei, List.append_assoc, ← bL_app, ← bL_app, ← JJ_succ L (by omega) hlt]
      exact ih
theorem texts_small (t : List (List Int)) : ∀ s ∈ texts t, s.size ≤ 3 := by
  intro s hs
  obtain ⟨r, _, rfl⟩ := List.mem_map.1 hs
  exact pre_size r 3
def triT (t : List (List Int)) : ByteArray := if isT t = true then ⟨(JJ (texts t) t.length).toArray⟩ else ⟨#[]⟩
theorem spec_tt_l0 {t : List (List Int)} {n : Int} (ok : TriOk t n) : ∀ (d k i : Nat), i + d = t.length → 5 * d + 20 < k → spec_TriText.l0 k t ((texts t).take i) (i : Int) = some (⟨(JJ (texts t) t.length).toArray⟩ : ByteArray)
  | 0, k, i, hi, hk => by
    obtain ⟨k, rfl⟩ : ∃ m, k = m + 1 := ⟨k - 1, by omega⟩
    have hs := ok.short
    have hl := texts_len t
    have := spec_join (L := texts t) (by omega) (texts_small t) (texts t).length k 0 (by omega) (by omega)
    rw [hl] at this
    conv => lhs; unfold spec_TriText.l0
    rw [if_neg (by omega), List.take_of_length_le (by omega)]
    unfold spec_Join.f
    rw [show (⟨#[32]⟩ : ByteArray) = sp from rfl, show spec_Join.l0 k (texts t) sp [] 0 = some (⟨(JJ (texts t) t.length).toArray⟩ : ByteArray) from this, Option.bind_some]
  | d + 1, k, i, hi, hk => by
    obtain ⟨k, rfl⟩ : ∃ m, k = m + 1 := ⟨k - 1, by omega⟩
    have hs := ok.short
    have hl := texts_len t
    have hlt : i < t.length := by omega
    have hr := spec_tt_row ok hlt ((texts t).take i) (by rw [List.length_take]; omega) 3 k 0 (by omega) (by omega)
    have ht : (texts t).take i ++ [pre t[i] 3] = (texts t).take (i + 1) := by
      rw [List.take_succ_eq_append_getElem (by omega), texts_at]
    conv => lhs; unfold spec_TriText.l0
    rw [if_pos (by omega)]
    refine hr.trans ?_
    rw [ht]
    exact spec_tt_l0 ok d (k - 3 - 1) (i + 1) (by omega) (by omega)
theorem impl_tt_l0 {t : List (List Int)} {n : Int} (ok : TriOk t n) : ∀ (d k i : Nat), i + d = t.length → 5 * d + 20 < k → impl_TriText.l0 k ((texts t).take i) t (t.length : Int) (i : Int) = some (⟨(JJ (texts t) t.length).toArray⟩ : ByteArray)
  | 0, k, i, hi, hk => by
    obtain ⟨k, rfl⟩ : ∃ m, k = m + 1 := ⟨k - 1, by omega⟩
    have hs := ok.short
    have hl := texts_len t
    have hj := JJ_len (texts_small t) (texts t).length (Nat.le_refl _)
    have ej : JJ (texts t) (texts t).length = Lib.join ((texts t).map (·.data.toList)) sp.data.toList := by unfold JJ; rw [List.take_length]
    conv => lhs; unfold impl_TriText.l0
    rw [if_neg (by omega), List.take_of_length_le (by omega), show (⟨#[32]⟩ : ByteArray) = sp from rfl]
    unfold impl_Join.f
    rw [if_pos (by omega), ← ej, if_pos (by omega), Option.bind_some, hl]
  | d + 1, k, i, hi, hk => by
    obtain ⟨k, rfl⟩ : ∃ m, k = m + 1 := ⟨k - 1, by omega⟩
    have hs := ok.short
    have hl := texts_len t
    have hlt : i < t.length := by omega
    have hr := impl_tt_row ok hlt ((texts t).take i) (by rw [List.length_take]; omega) 3 k 0 (by omega) (by omega)
    have ht : (texts t).take i ++ [pre t[i] 3] = (texts t).take (i + 1) := by
      rw [List.take_succ_eq_append_getElem (by omega), texts_at]
    conv => lhs; unfold impl_TriText.l0
    rw [if_pos (by omega), if_pos (by omega), if_pos (by omega), rdL_nat t i hlt]
    refine hr.trans ?_
    rw [ht]
    exact impl_tt_l0 ok d (k - 3 - 1) (i + 1) (by omega) (by omega)
theorem spec_tt (t : List (List Int)) (ht : t.length ≤ 1048576) (k : Nat) (hk : 6000000 < k) : spec_TriText.f k t = some (triT t) := by
  unfold spec_TriText.f triT
  rw [spec_isT t ht k (by omega), Option.bind_some]
  by_cases h : isT t = true
  · rw [if_pos h, if_pos h]
    exact spec_tt_l0 (isT_ok ht h) t.length k 0 (by omega) (by omega)
  · rw [if_neg h, if_neg h]
theorem impl_tt (t : List (List Int)) (ht : t.length ≤ 1048576) (k : Nat) (hk : 6000000 < k) : impl_TriText.f k t = some (triT t) := by
  unfold impl_TriText.f triT
  rw [impl_isT t ht k (by omega), Option.bind_some]
  by_cases h : isT t = true
  · rw [if_pos h, if_pos h]
    exact impl_tt_l0 (isT_ok ht h) t.length k 0 (by omega) (by omega)
  · rw [if_neg h, if_neg h]
end Go.Proofs.Ytahokioglinpgaa.L

namespace Go.Proofs.Ytahokioglinpgaa.Pure
open Go.RowKit Go.Proofs.Ytahokioglinpgaa.P Go.Proofs.Ytahokioglinpgaa.Help Go.Proofs.Ytahokioglinpgaa.L
theorem FnExactTriText : ∀ (l0 : List (List Int)), l0.length ≤ 9223372036854775807 → (∀ r ∈ l0, r.length ≤ 9223372036854775807) → (∀ r ∈ l0, ∀ x ∈ r, I64 x) → ∃ k, laws_FnExactTriText.f k l0 = some true := by
  intro t h1 h2 _
  refine ⟨7000000, ?_⟩
  unfold laws_FnExactTriText.f
  obtain ⟨z, hz, hb⟩ := szIntSS_f t h1 h2 1048576 (by decide) (by decide) 7000000 (by decide)
  rw [hz, Option.bind_some]
  by_cases h : z < 0
  · rw [if_pos h]
  · obtain ⟨b1, b2, _⟩ := hb (by omega)
    rw [if_neg h, toIntSS_f t b1 b2 _ (by decide), Option.bind_some, spec_tt t b1 _ (by decide), Option.bind_some, Option.bind_some, impl_tt t b1 _ (by decide), Option.bind_some, if_pos rfl, Option.bind_some, eqIntSS_self t b1 b2 _ (by decide), Option.bind_some, if_pos rfl]
end Go.Proofs.Ytahokioglinpgaa.Pure
