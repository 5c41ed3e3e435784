/- The program's IsPlanarWord answers as the reference's, for all arguments; no condition. -/
import Derived.Test.YtfcdomcnkeeffaaPx0
import Derived.Test.YtfcdomcnkeeffaaHelp
import Derived.Test.YtfcdomcnkeeffaaPx1
import Derived.Test.YtfcdomcnkeeffaaPx2
import Derived.Test.YtfcdomcnkeeffaaPx3
import Derived.Test.YtfcdomcnkeeffaaPx4
import Derived.Test.YtfcdomcnkeeffaaPx6
import Derived.Test.YtfcdomcnkeeffaaPx7
import Derived.Test.YtfcdomcnkeeffaaPx13
import Derived.Test.YtfcdomcnkeeffaaPx22
import Derived.Test.YtfcdomcnkeeffaaPx8
import Derived.Test.YtfcdomcnkeeffaaPx26
import Derived.Test.YtfcdomcnkeeffaaPx27
import Derived.Test.YtfcdomcnkeeffaaPx10
import Derived.Test.YtfcdomcnkeeffaaPx11
import Derived.Test.YtfcdomcnkeeffaaPx12
import Derived.Test.YtfcdomcnkeeffaaPx28
import Derived.Test.YtfcdomcnkeeffaaPx15
import Derived.Test.YtfcdomcnkeeffaaPx19
import Derived.Test.YtfcdomcnkeeffaaPx16
import Derived.Test.YtfcdomcnkeeffaaPx17
import Derived.Test.YtfcdomcnkeeffaaPx18
import Derived.Test.YtfcdomcnkeeffaaPx20
import Derived.Test.YtfcdomcnkeeffaaPx21
import Derived.Test.YtfcdomcnkeeffaaPx5
import Derived.Test.YtfcdomcnkeeffaaPx29
import Derived.Test.YtfcdomcnkeeffaaPx37
import Derived.Test.YtfcdomcnkeeffaaPx38

namespace Go.Proofs.Ytfcdomcnkeeffaa.L
open Go.RowKit Go.Proofs.Ytfcdomcnkeeffaa.P Go.Proofs.Ytfcdomcnkeeffaa.Help Go.Proofs.YtfcdomcnkeeffaaW.PrintWords
set_option linter.unusedVariables false
set_option linter.unusedSimpArgs false

theorem w_id {a : Int} (h0 : -9223372036854775808 ≤ a) (h1 : a ≤ 9223372036854775807) : wrap64 a = a := by unfold wrap64; omega
theorem mulb {a b A B : Int} (h1 : -A ≤ a) (h2 : a ≤ A) (h3 : -B ≤ b) (h4 : b ≤ B) : -(A * B) ≤ a * b ∧ a * b ≤ A * B := by
  have hA : 0 ≤ A := by omega
  have hB : 0 ≤ B := by omega
  have h : (a * b).natAbs ≤ (A * B).natAbs := by
    rw [Int.natAbs_mul, Int.natAbs_mul]
    exact Nat.mul_le_mul (by omega) (by omega)
  have hp : 0 ≤ A * B := Int.mul_nonneg hA hB
  omega
theorem rd_nat (xs : List Int) (i : Nat) (h : i < xs.length) : rd xs (i : Int) = xs[i] := by
  unfold rd
  simp [List.getD_eq_getElem?_getD, List.getElem?_eq_getElem h]
theorem bind_ite {α β : Type} {c : Prop} [Decidable c] (x y : Option α) (f : α → Option β) : (if c then x else y).bind f = if c then x.bind f else y.bind f := by split <;> rfl
theorem unit_of {a d : Int} (h : a * d = 1) : a = 1 ∨ a = -1 := by
  have h1 : a.natAbs * d.natAbs = 1 := by rw [← Int.natAbs_mul, h]; rfl
  have h2 : a.natAbs = 1 := Nat.eq_one_of_mul_eq_one_right h1
  omega
end Go.Proofs.Ytfcdomcnkeeffaa.L

namespace Go.Proofs.Ytfcdomcnkeeffaa.L
open Go.RowKit Go.Proofs.Ytfcdomcnkeeffaa.P Go.Proofs.Ytfcdomcnkeeffaa.Help Go.Proofs.YtfcdomcnkeeffaaW.PrintWords
set_option linter.unusedVariables false
set_option linter.unusedSimpArgs false

theorem l1In_eq (a lo hi : Int) : spec_l1In.f a lo hi = some (decide (lo ≤ a ∧ a ≤ hi)) := by
  unfold spec_l1In.f
  by_cases h : lo ≤ a <;> simp [h]
theorem within_eq (a lo hi : Int) : impl_within.f a lo hi = some (decide (lo ≤ a ∧ a ≤ hi)) := by
  unfold impl_within.f
  by_cases h : lo ≤ a <;> simp [h]
end Go.Proofs.Ytfcdomcnkeeffaa.L

namespace Go.Proofs.Ytfcdomcnkeeffaa.L
open Go.RowKit Go.Proofs.Ytfcdomcnkeeffaa.P Go.Proofs.Ytfcdomcnkeeffaa.Help Go.Proofs.YtfcdomcnkeeffaaW.PrintWords
set_option linter.unusedVariables false
set_option linter.unusedSimpArgs false

theorem l3AbsW {a : Int} (h0 : -8 ≤ a) (h1 : a ≤ 8) : spec_l3Abs.f a = some (a.natAbs : Int) := by
  unfold spec_l3Abs.f spec_l1Max.f
  rw [w_id (by omega) (by omega)]
  by_cases h : a > -a
  · rw [if_pos h]; simp only [Option.bind_some]; congr 1; omega
  · rw [if_neg h]; simp only [Option.bind_some]; congr 1; omega
theorem sizeW {a : Int} (h0 : -8 ≤ a) (h1 : a ≤ 8) : impl_size.f a = some (a.natAbs : Int) := by
  unfold impl_size.f
  rw [w_id (by omega) (by omega)]
  congr 1
  unfold mx
  split <;> omega
def letB (x : Int) : Bool := decide (x ≠ 0 ∧ -8 ≤ x ∧ x ≤ 8)
theorem letB_true {x : Int} (h : letB x = true) : x ≠ 0 ∧ -8 ≤ x ∧ x ≤ 8 := of_decide_eq_true h
theorem spec_letter (x : Int) : spec_l2Letter.f x = some (letB x) := by
  unfold spec_l2Letter.f letB
  rw [l1In_eq, l1In_eq, Option.bind_some, Option.bind_some]
  by_cases h : 1 ≤ x ∧ x ≤ 8
  · rw [if_pos (decide_eq_true h)]
    congr 1
    symm
    rw [decide_eq_true_iff]
    omega
  · rw [if_neg (by simpa using h)]
    congr 1
    rw [decide_eq_decide]
    omega
theorem impl_letter (x : Int) : impl_isLetter.f x = some (letB x) := by
  unfold impl_isLetter.f letB
  rw [within_eq, Option.bind_some]
  by_cases h : x = 0
  · rw [if_pos h]; simp [h]
  · rw [if_neg h]
    simp [h]
/-- A word. -/
def isW (w : List Int) : Bool := w.all letB && decide (w.length ≤ 24)
theorem spec_isW_l0 (xs : List Int) (hx : xs.length ≤ 1000000000000) : ∀ (d k i : Nat), i + d = xs.length → d < k → spec_IsWord.l0 k xs (i : Int) = some ((xs.drop i).all letB && decide (xs.length ≤ 24)) := by
  intro d
  induction d with
  | zero =>
    intro k i hi hk
    obtain ⟨k, rfl⟩ : ∃ m, k = m + 1 := ⟨k - 1, by omega⟩
    simp only [spec_IsWord.l0]
    rw [if_neg (by omega), List.drop_of_length_le (by omega)]
    simp
    omega
  | succ d ih =>
    intro k i hi hk
    obtain ⟨k, rfl⟩ : ∃ m, k = m + 1 := ⟨k - 1, by omega⟩
    have hlt : i < xs.length := by omega
    simp only [spec_IsWord.l0]
    rw [if_pos (by omega), if_pos (by omega), spec_letter, Option.bind_some, w_id (by omega) (by omega), show ((i : Int) + 1) = ((i + 1 : Nat) : Int) by omega, ih k (i + 1) (by omega) (by omega), List.drop_eq_getElem_cons hlt, List.all_cons, rd_nat xs i hlt]
    by_cases h : letB xs[i] = true <;> simp [h]
theorem impl_isW_l0 (xs : List Int) (hx : xs.length ≤ 1000000000000) : ∀ (d k i : Nat), i + d = xs.length → d < k → impl_IsWord.l0 k xs xs (xs.length : Int) (i : Int) = some ((xs.drop i).all letB && decide (xs.length ≤ 24)) := by
  intro d
  induction d with
  | zero =>
    intro k i hi hk
    obtain ⟨k, rfl⟩ : ∃ m, k = m + 1 := ⟨k - 1, by omega⟩
    simp only [impl_IsWord.l0]
    rw [if_neg (by omega), List.drop_of_length_le (by omega)]
    simp
    omega
  | succ d ih =>
    intro k i hi hk
    obtain ⟨k, rfl⟩ : ∃ m, k = m + 1 := ⟨k - 1, by omega⟩
    have hlt : i < xs.length := by omega
    simp only [impl_IsWord.l0]
    rw [if_pos (by omega), if_pos (by omega), if_pos (by omega), impl_letter, Option.bind_some, w_id (by omega) (by omega), show ((i : Int) + 1) = ((i + 1 : Nat) : Int) by omega, ih k (i + 1) (by omega) (by omega), List.drop_eq_getElem_cons hlt, List.all_cons, rd_nat xs i hlt]
    by_cases h : letB xs[i] = true <;> simp [h]
theorem spec_isW (xs : List Int) (hx : xs.length ≤ 1048576) (k : Nat) (hk : 1048576 < k) : spec_IsWord.f k xs = some (isW xs) := by
  unfold spec_IsWord.f
  have := spec_isW_l0 xs (by omega) xs.length k 0 (by omega) (by omega)
  rw [List.drop_zero] at this
  exact this
theorem impl_isW (xs : List Int) (hx : xs.length ≤ 1048576) (k : Nat) (hk : 1048576 < k) : impl_IsWord.f k xs = some (isW xs) := by
  unfold impl_IsWord.f
  have := impl_isW_l0 xs (by omega) xs.length k 0 (by omega) (by omega)
  rw [List.drop_zero] at this
  exact this
theorem isW_true {w : List Int} (h : isW w = true) : (∀ x ∈ w, x ≠ 0 ∧ -8 ≤ x ∧ x ≤ 8) ∧ w.length ≤ 24 := by
  unfold isW at h
  rw [Bool.and_eq_true, List.all_eq_true, decide_eq_true_iff] at h
  exact ⟨fun x hx => letB_true (h.1 x hx), h.2⟩
/-- How often a letter occurs, counting inverses. -/
def cnt : List Int → Int → Int
  | [], _ => 0
  | y :: ys, x => (if (y.natAbs : Int) = x then 1 else 0) + cnt ys x
theorem cnt_bd : ∀ (w : List Int) (x : Int), 0 ≤ cnt w x ∧ cnt w x ≤ w.length
  | [], _ => by simp [cnt]
  | y :: ys, x => by
    have := cnt_bd ys x
    rw [cnt, List.length_cons]
    split <;> omega
theorem cnt_append : ∀ (v w : List Int) (x : Int), cnt (v ++ w) x = cnt v x + cnt w x
  | [], w, x => by simp [cnt]
  | y :: ys, w, x => by
    rw [List.cons_append, cnt, cnt, cnt_append ys w x]
    omega
theorem cnt_ne : ∀ (w : List Int) (x : Int), cnt w x ≠ 0 ↔ ∃ y ∈ w, (y.natAbs : Int) = x
  | [], x => by simp [cnt]
  | y :: ys, x => by
    have ih := cnt_ne ys x
    have hb := cnt_bd ys x
    rw [cnt]
    by_cases h : (y.natAbs : Int) = x
    · rw [if_pos h]
      constructor
      · intro _; exact ⟨y, List.mem_cons_self, h⟩
      · intro _; omega
    · rw [if_neg h, Int.zero_add, ih]
      constructor
      · rintro ⟨z, hz, e⟩; exact ⟨z, List.mem_cons_of_mem _ hz, e⟩
      · rintro ⟨z, hz, e⟩
        rcases List.mem_cons.1 hz with rfl | hz
        · exact absurd e h
        · exact ⟨z, hz, e⟩
theorem spec_count_l0 (xs : List Int) (hx : xs.length ≤ 1000000) (hl : ∀ y ∈ xs, -8 ≤ y ∧ y ≤ 8) (x : Int) : ∀ (d k i : Nat) (n : Int), i + d = xs.length → d < k → 0 ≤ n → n ≤ 1000000000 - d → spec_l5Count.l0 k xs x n (i : Int) = some (n + cnt (xs.drop i) x) := by
  intro d
  induction d with
  | zero =>
    intro k i n hi hk h0 h1
    obtain ⟨k, rfl⟩ : ∃ m, k = m + 1 := ⟨k - 1, by omega⟩
    simp only [spec_l5Count.l0]
    rw [if_neg (by omega), List.drop_of_length_le (by omega)]
    simp [cnt]
  | succ d ih =>
    intro k i n hi hk h0 h1
    obtain ⟨k, rfl⟩ : ∃ m, k = m + 1 := ⟨k - 1, by omega⟩
    have hlt : i < xs.length := by omega
    have hb := hl xs[i] (List.getElem_mem hlt)
    simp only [spec_l5Count.l0]
    rw [if_pos (by omega), if_pos (by omega), rd_nat xs i hlt, l3AbsW hb.1 hb.2, Option.bind_some, List.drop_eq_getElem_cons hlt, cnt]
    unfold spec_l1Bit.f
    by_cases h : (xs[i].natAbs : Int) = x
    · rw [if_pos (by simpa using h), if_pos h, Option.bind_some, w_id (a := n + 1) (by omega) (by omega), w_id (by omega) (by omega), show ((i : Int) + 1) = ((i + 1 : Nat) : Int) by omega, ih k (i + 1) (n + 1) (by omega) (by omega) (by omega) (by omega)]
      congr 1
      omega
    · rw [if_neg (by simpa using h), if_neg h, Option.bind_some, w_id (a := n + 0) (by omega) (by omega), w_id (by omega) (by omega), show ((i : Int) + 1) = ((i + 1 : Nat) : Int) by omega, ih k (i + 1) (n + 0) (by omega) (by omega) (by omega) (by omega)]
      congr 1
      omega
theorem spec_count (xs : List Int) (hx : xs.length ≤ 24) (hl : ∀ y ∈ xs, -8 ≤ y ∧ y ≤ 8) (x : Int) (k : Nat) (hk : 24 < k) : spec_l5Count.f k xs x = some (cnt xs x) := by
  unfold spec_l5Count.f
  have := spec_count_l0 xs (by omega) hl x xs.length k 0 0 (by omega) (by omega) (by omega) (by omega)
  rw [List.drop_zero, Int.zero_add] at this
  exact this
/-- How often each letter from 0 to 8 occurs. -/
def cl (w : List Int) : List Int := (List.range 9).map fun (i : Nat) => cnt w (i : Int)
theorem cl_len (w : List Int) : (cl w).length = 9 := by simp [cl]
theorem cl_get (w : List Int) (i : Nat) (h : i < (cl w).length) : (cl w)[i] = cnt w (i : Int) := by simp [cl]
theorem cl_step (w : List Int) (y : Int) (hy : -8 ≤ y ∧ y ≤ 8) : (cl w).set y.natAbs (cnt w (y.natAbs : Int) + 1) = cl (w ++ [y]) := by
  apply List.ext_getElem
  · rw [List.length_set, cl_len, cl_len]
  · intro i h1 h2
    rw [List.getElem_set, cl_get, cl_get, cnt_append]
    simp only [cnt]
    by_cases h : y.natAbs = i
    · rw [if_pos h, if_pos (by omega), h]
      omega
    · rw [if_neg h, if_neg (by omega)]
      omega
theorem letterCounts_l1 (w : List Int) (hx : w.length ≤ 1000000) (hl : ∀ y ∈ w, -8 ≤ y ∧ y ≤ 8) : ∀ (d k i : Nat), i + d = w.length → d + 3 < k → impl_letterCounts.l1 k (cl (w.take i)) [w] 1 0 w (w.length : Int) (i : Int) = some (cl w) := by
  intro d
  induction d with
  | zero =>
    intro k i hi hk
    obtain ⟨k, rfl⟩ : ∃ m, k = m + 2 := ⟨k - 2, by omega⟩
    simp only [impl_letterCounts.l1, impl_letterCounts.l0]
    rw [if_neg (by omega), w_id (by omega) (by omega), if_neg (by omega), List.take_of_length_le (by omega)]
  | succ d ih =>
    intro k i hi hk
    obtain ⟨k, rfl⟩ : ∃ m, k = m + 1 := ⟨k - 1, by omega⟩
    have hlt : i < w.length := by omega
    have hb := hl w[i] (List.getElem_mem hlt)
    have hr : rd (cl (w.take i)) (w[i].natAbs : Int) = cnt (w.take i) (w[i].natAbs : Int) := by
      rw [rd_nat _ _ (by rw [cl_len]; omega), cl_get]
    have hcb := cnt_bd (w.take i) (w[i].natAbs : Int)
    rw [List.length_take] at hcb
    simp only [impl_letterCounts.l1]
    rw [if_pos (by omega), if_pos (by omega), if_pos (by omega), rd_nat w i hlt, sizeW hb.1 hb.2, Option.bind_some, cl_len, if_pos (by omega), if_pos (by omega), hr, Int.toNat_natCast, w_id (a := cnt (w.take i) (w[i].natAbs : Int) + 1) (by omega) (by omega), cl_step _ _ hb, w_id (by omega) (by omega), show ((i : Int) + 1) = ((i + 1 : Nat) : Int) by omega]
    have := ih k (i + 1) (by omega) (by omega)
    rw [List.take_succ_eq_append_getElem hlt] at this
    exact this
theorem crossings_eq (w : List Int) (hx : w.length ≤ 24) (hl : ∀ y ∈ w, -8 ≤ y ∧ y ≤ 8) (k : Nat) (hk : 40 < k) : impl_crossings.f k w = some (cl w) := by
  unfold impl_crossings.f impl_letterCounts.f
  rw [if_pos (by decide)]
  obtain ⟨k, rfl⟩ : ∃ m, k = m + 1 := ⟨k - 1, by omega⟩
  simp only [impl_letterCounts.l0, List.length_singleton]
  rw [if_pos (by decide), if_pos (by decide), if_pos (by decide)]
  have h : impl_letterCounts.l1 k (cl (w.take 0)) [w] 1 0 w (w.length : Int) 0 = some (cl w) := letterCounts_l1 w (by omega) hl w.length k 0 (by omega) (by omega)
  rw [show rd_L1 [w] 0 = w from rfl]
  rw [show (List.replicate 9 (0 : Int)) = cl (w.take 0) from by rw [List.take_zero]; rfl]
  rw [show (((1 : Nat) : Int)) = 1 from rfl, h]
  rfl
/-- A crossing word. -/
def cw (w : List Int) : Bool := isW w && decide (2 ≤ w.length ∧ w.length ≤ 12) && w.all (fun x => decide (1 ≤ x ∧ cnt w x = 2))
theorem cw_true {w : List Int} (h : cw w = true) : (2 ≤ w.length ∧ w.length ≤ 12) ∧ ∀ x ∈ w, (1 ≤ x ∧ x ≤ 8) ∧ cnt w x = 2 := by
  unfold cw at h
  rw [Bool.and_eq_true, Bool.and_eq_true, decide_eq_true_iff, List.all_eq_true] at h
  obtain ⟨⟨h1, h2⟩, h3⟩ := h
  obtain ⟨h4, _⟩ := isW_true h1
  refine ⟨h2, fun x hx => ?_⟩
  have := of_decide_eq_true (h3 x hx)
  have := h4 x hx
  omega
theorem cw_small {w : List Int} (h : cw w = true) : ∀ x ∈ w, -8 ≤ x ∧ x ≤ 8 := fun x hx => by have := (cw_true h).2 x hx; omega
theorem spec_cw_l0 (w : List Int) (hx : w.length ≤ 24) (hl : ∀ y ∈ w, -8 ≤ y ∧ y ≤ 8) : ∀ (d k i : Nat), i + d = w.length → d + 30 < k → spec_IsCrossingWord.l0 k w (i : Int) = some ((w.drop i).all (fun x => decide (1 ≤ x ∧ cnt w x = 2))) := by
  intro d
  induction d with
  | zero =>
    intro k i hi hk
    obtain ⟨k, rfl⟩ : ∃ m, k = m + 1 := ⟨k - 1, by omega⟩
    simp only [spec_IsCrossingWord.l0]
    rw [if_neg (by omega), List.drop_of_length_le (by omega)]
    rfl
  | succ d ih =>
    intro k i hi hk
    obtain ⟨k, rfl⟩ : ∃ m, k = m + 1 := ⟨k - 1, by omega⟩
    have hlt : i < w.length := by omega
    simp only [spec_IsCrossingWord.l0]
    rw [if_pos (by omega), if_pos (by omega), rd_nat w i hlt, List.drop_eq_getElem_cons hlt, List.all_cons, spec_count w hx hl _ k (by omega), Option.bind_some]
    by_cases h : w[i] < 1
    · rw [if_pos h, decide_eq_false (by omega)]
      rfl
    · rw [if_neg h]
      by_cases h2 : cnt w w[i] = 2
      · rw [if_pos h2, decide_eq_true ⟨by omega, h2⟩, w_id (by omega) (by omega), show ((i : Int) + 1) = ((i + 1 : Nat) : Int) by omega, ih k (i + 1) (by omega) (by omega)]
        rfl
      · rw [if_neg h2, decide_eq_false (fun h => h2 h.2)]
        rfl
theorem spec_cw (w : List Int) (hx : w.length ≤ 1048576) (k : Nat) (hk : 1048577 < k) : spec_IsCrossingWord.f k w = some (cw w) := by
  obtain ⟨k, rfl⟩ : ∃ m, k = m + 1 := ⟨k - 1, by omega⟩
  unfold spec_IsCrossingWord.f cw
  rw [spec_isW w hx (k + 1) (by omega), l1In_eq, Option.bind_some, Option.bind_some]
  simp only [spec_IsCrossingWord.j0, if_true]
  by_cases h : isW w = true
  · rw [if_pos h]
    obtain ⟨h1, h2⟩ := isW_true h
    by_cases h3 : 2 ≤ w.length ∧ w.length ≤ 12
    · rw [if_neg (by simp; omega)]
      have := spec_cw_l0 w h2 (fun y hy => by have := h1 y hy; omega) w.length k 0 (by omega) (by omega)
      rw [List.drop_zero] at this
      rw [show ((0 : Int)) = ((0 : Nat) : Int) from rfl, this, h, decide_eq_true h3]
      rfl
    · rw [if_pos (by simp; omega), decide_eq_false h3]
      simp
  · rw [if_neg h, Bool.eq_false_iff.2 h]
    rfl
theorem impl_cw_l1 (w : List Int) (hx : w.length ≤ 24) : ∀ (d k i : Nat), i + d = w.length → d < k → impl_IsCrossingWord.l1 k w (w.length : Int) (i : Int) = some ((w.drop i).all (fun x => decide (1 ≤ x))) := by
  intro d
  induction d with
  | zero =>
    intro k i hi hk
    obtain ⟨k, rfl⟩ : ∃ m, k = m + 1 := ⟨k - 1, by omega⟩
    simp only [impl_IsCrossingWord.l1]
    rw [if_neg (by omega), List.drop_of_length_le (by omega)]
    rfl
  | succ d ih =>
    intro k i hi hk
    obtain ⟨k, rfl⟩ : ∃ m, k = m + 1 := ⟨k - 1, by omega⟩
    have hlt : i < w.length := by omega
    simp only [impl_IsCrossingWord.l1]
    rw [if_pos (by omega), if_pos (by omega), if_pos (by omega), rd_nat w i hlt, List.drop_eq_getElem_cons hlt, List.all_cons]
    by_cases h : w[i] < 1
    · rw [if_pos h, decide_eq_false (by omega)]
      rfl
    · rw [if_neg h, decide_eq_true (by omega), w_id (by omega) (by omega), show ((i : Int) + 1) = ((i + 1 : Nat) : Int) by omega, ih k (i + 1) (by omega) (by omega)]
      rfl
theorem impl_cw_l0 (w : List Int) (hx : w.length ≤ 24) : ∀ (d k i : Nat), i + d = 9 → d + 30 < k → impl_IsCrossingWord.l0 k w (cl w) 9 (i : Int) = some (((cl w).drop i).all (fun c => decide (c = 0 ∨ c = 2)) && w.all (fun x => decide (1 ≤ x))) := by
  intro d
  induction d with
  | zero =>
    intro k i hi hk
    obtain ⟨k, rfl⟩ : ∃ m, k = m + 1 := ⟨k - 1, by omega⟩
    simp only [impl_IsCrossingWord.l0]
    rw [if_neg (by omega), List.drop_of_length_le (by rw [cl_len]; omega)]
    have := impl_cw_l1 w hx w.length k 0 (by omega) (by omega)
    rw [List.drop_zero] at this
    rw [show ((0 : Int)) = ((0 : Nat) : Int) from rfl, this]
    rfl
  | succ d ih =>
    intro k i hi hk
    obtain ⟨k, rfl⟩ : ∃ m, k = m + 1 := ⟨k - 1, by omega⟩
    have hlt : i < (cl w).length := by rw [cl_len]; omega
    simp only [impl_IsCrossingWord.l0]
    rw [if_pos (by omega), if_pos (by omega), if_pos (by rw [cl_len]; omega), rd_nat _ i hlt, List.drop_eq_getElem_cons hlt, List.all_cons, w_id (by omega) (by omega), show ((i : Int) + 1) = ((i + 1 : Nat) : Int) by omega, ih k (i + 1) (by omega) (by omega)]
    by_cases h : (cl w)[i] = 0
    · rw [if_pos h, decide_eq_true (.inl h)]
      rfl
    · rw [if_neg h]
      by_cases h2 : (cl w)[i] = 2
      · rw [if_pos h2, decide_eq_true (.inr h2)]
        rfl
      · rw [if_neg h2, decide_eq_false (by omega)]
        rfl
theorem cw_iff (w : List Int) (hw : ∀ x ∈ w, x ≠ 0 ∧ -8 ≤ x ∧ x ≤ 8) : ((cl w).all (fun c => decide (c = 0 ∨ c = 2)) && w.all (fun x => decide (1 ≤ x))) = w.all (fun x => decide (1 ≤ x ∧ cnt w x = 2)) := by
  rw [Bool.eq_iff_iff, Bool.and_eq_true, List.all_eq_true, List.all_eq_true, List.all_eq_true]
  constructor
  · rintro ⟨h1, h2⟩ x hx
    have h3 := of_decide_eq_true (h2 x hx)
    have h4 := hw x hx
    have h5 : cnt w x ∈ cl w := by
      unfold cl
      rw [List.mem_map]
      exact ⟨x.toNat, List.mem_range.2 (by omega), by rw [Int.toNat_of_nonneg (by omega)]⟩
    have h6 := of_decide_eq_true (h1 _ h5)
    have h7 := (cnt_ne w x).2 ⟨x, hx, by omega⟩
    exact decide_eq_true (by omega)
  · intro h
    have h1 : ∀ x ∈ w, 1 ≤ x ∧ cnt w x = 2 := fun x hx => of_decide_eq_true (h x hx)
    refine ⟨fun c hc => ?_, fun x hx => decide_eq_true (h1 x hx).1⟩
    unfold cl at hc
    obtain ⟨i, _, rfl⟩ := List.mem_map.1 hc
    refine decide_eq_true ?_
    by_cases h0 : cnt w (i : Int) = 0
    · exact .inl h0
    · obtain ⟨y, hy, e⟩ := (cnt_ne w _).1 h0
      have := h1 y hy
      have e2 : y = (i : Int) := by omega
      rw [← e2]
      exact .inr this.2
theorem impl_cw (w : List Int) (hx : w.length ≤ 1048576) (k : Nat) (hk : 1048577 < k) : impl_IsCrossingWord.f k w = some (cw w) := by
  obtain ⟨k, rfl⟩ : ∃ m, k = m + 1 := ⟨k - 1, by omega⟩
  unfold impl_IsCrossingWord.f cw
  rw [impl_isW w hx (k + 1) (by omega), within_eq, Option.bind_some, Option.bind_some]
  simp only [impl_IsCrossingWord.j0, if_true]
  by_cases h : isW w = true
  · rw [if_pos h]
    obtain ⟨h1, h2⟩ := isW_true h
    by_cases h3 : 2 ≤ w.length ∧ w.length ≤ 12
    · rw [if_neg (by simp; omega), crossings_eq w h2 (fun y hy => by have := h1 y hy; omega) k (by omega), Option.bind_some, cl_len]
      have := impl_cw_l0 w h2 9 k 0 (by omega) (by omega)
      rw [List.drop_zero, cw_iff w h1] at this
      rw [show ((0 : Int)) = ((0 : Nat) : Int) from rfl, show (((9 : Nat) : Int)) = 9 from rfl, this, h, decide_eq_true h3]
      rfl
    · rw [if_pos (by simp; omega), decide_eq_false h3]
      simp
  · rw [if_neg h, Bool.eq_false_iff.2 h]
    rfl
end Go.Proofs.Ytfcdomcnkeeffaa.L

namespace Go.Proofs.Ytfcdomcnkeeffaa.L
open Go.RowKit Go.Proofs.Ytfcdomcnkeeffaa.P Go.Proofs.Ytfcdomcnkeeffaa.Help Go.Proofs.YtfcdomcnkeeffaaW.PrintWords
set_option linter.unusedVariables false
set_option linter.unusedSimpArgs false

/-- The first index of a number, or -1. -/
def idx : List Int → Int → Int
  | [], _ => -1
  | y :: ys, x => if y = x then 0 else if idx ys x < 0 then -1 else idx ys x + 1
theorem idx_bd : ∀ (w : List Int) (x : Int), idx w x = -1 ∨ (0 ≤ idx w x ∧ idx w x < w.length)
  | [], _ => .inl rfl
  | y :: ys, x => by
    have ih := idx_bd ys x
    rw [idx, List.length_cons]
    split
    · right; omega
    · split
      · left; rfl
      · right; omega
theorem idx_mem : ∀ (w : List Int) (x : Int), 0 ≤ idx w x ↔ x ∈ w
  | [], x => by simp [idx]
  | y :: ys, x => by
    have ih := idx_mem ys x
    rw [idx, List.mem_cons]
    by_cases h : y = x
    · rw [if_pos h]; simp [h]
    · rw [if_neg h]
      have hne : ¬ x = y := fun e => h e.symm
      by_cases h2 : idx ys x < 0
      · rw [if_pos h2]
        constructor
        · intro h3; omega
        · rintro (h3 | h3)
          · exact absurd h3 hne
          · have := ih.2 h3; omega
      · rw [if_neg h2]
        constructor
        · intro _; exact .inr (ih.1 (by omega))
        · intro _; omega
theorem idx_at : ∀ (w : List Int) (x : Int), 0 ≤ idx w x → ∀ h : (idx w x).toNat < w.length, w[(idx w x).toNat] = x
  | [], x, h => by simp [idx] at h
  | y :: ys, x, h => by
    intro h1
    have ih := idx_at ys x
    by_cases h2 : y = x
    · have e : idx (y :: ys) x = 0 := by rw [idx, if_pos h2]
      simp only [e]
      exact h2
    · by_cases h3 : idx ys x < 0
      · rw [idx, if_neg h2, if_pos h3] at h; omega
      · have e : idx (y :: ys) x = idx ys x + 1 := by rw [idx, if_neg h2, if_neg h3]
        have e2 : (idx (y :: ys) x).toNat = (idx ys x).toNat + 1 := by omega
        simp only [e2, List.getElem_cons_succ]
        exact ih (by omega) _
theorem idx_before : ∀ (w : List Int) (x : Int) (j : Nat), (j : Int) < idx w x → ∀ h : j < w.length, w[j] ≠ x
  | [], x, j, h => by simp [idx] at h; omega
  | y :: ys, x, j, h => by
    intro h1
    by_cases h2 : y = x
    · rw [idx, if_pos h2] at h; omega
    · rw [idx, if_neg h2] at h
      cases j with
      | zero => exact h2
      | succ j =>
        by_cases h3 : idx ys x < 0
        · rw [if_pos h3] at h; omega
        · rw [if_neg h3] at h
          exact idx_before ys x j (by omega) (by simpa using h1)
theorem indexOf_l0 (w : List Int) (hx : w.length ≤ 1000000000) (x : Int) : ∀ (d k i : Nat), i + d = w.length → d < k → impl_indexOf.l0 k x w (w.length : Int) (i : Int) = some (if idx (w.drop i) x < 0 then -1 else i + idx (w.drop i) x) := by
  intro d
  induction d with
  | zero =>
    intro k i hi hk
    obtain ⟨k, rfl⟩ : ∃ m, k = m + 1 := ⟨k - 1, by omega⟩
    simp only [impl_indexOf.l0]
    rw [if_neg (by omega), List.drop_of_length_le (by omega)]
    rfl
  | succ d ih =>
    intro k i hi hk
    obtain ⟨k, rfl⟩ : ∃ m, k = m + 1 := ⟨k - 1, by omega⟩
    have hlt : i < w.length := by omega
    simp only [impl_indexOf.l0]
    rw [if_pos (by omega), if_pos (by omega), if_pos (by omega), rd_nat w i hlt, List.drop_eq_getElem_cons hlt, idx]
    by_cases h : w[i] = x
    · rw [if_pos h, if_pos h, if_neg (by omega)]
      congr 1 <;> omega
    · rw [if_neg h, if_neg h, w_id (by omega) (by omega), show ((i : Int) + 1) = ((i + 1 : Nat) : Int) by omega, ih k (i + 1) (by omega) (by omega)]
      by_cases h2 : idx (w.drop (i + 1)) x < 0
      · rw [if_pos h2, if_pos h2, if_pos (by omega)]
      · rw [if_neg h2, if_neg h2, if_neg (by omega)]
        congr 1
        omega
theorem indexOf_eq (w : List Int) (hx : w.length ≤ 1000000000) (x : Int) (k : Nat) (hk : w.length < k) : impl_indexOf.f k w x = some (idx w x) := by
  unfold impl_indexOf.f
  have h := indexOf_l0 w hx x w.length k 0 (by omega) hk
  rw [List.drop_zero] at h
  rw [show ((0 : Int)) = ((0 : Nat) : Int) from rfl, h]
  congr 1
  rcases idx_bd w x with h2 | h2
  · rw [if_pos (by omega), h2]
  · rw [if_neg (by omega)]; omega
/-- Both places of a letter, or -1 and -1. -/
def pl (w : List Int) (x : Int) : Int × Int :=
  if idx w x < 0 then (-1, -1) else if idx (w.drop ((idx w x).toNat + 1)) x < 0 then (-1, -1) else (idx w x, idx w x + 1 + idx (w.drop ((idx w x).toNat + 1)) x)
theorem places_two (w : List Int) (hx : w.length ≤ 1000000000) (x : Int) (p : Int) (hp : 0 ≤ p) : ∀ (d k i : Nat), i + d = w.length → d < k → spec_l18Places.l0 k w x p (i : Int) = some (if idx (w.drop i) x < 0 then (-1, -1) else (p, i + idx (w.drop i) x)) := by
  intro d
  induction d with
  | zero =>
    intro k i hi hk
    obtain ⟨k, rfl⟩ : ∃ m, k = m + 1 := ⟨k - 1, by omega⟩
    simp only [spec_l18Places.l0]
    rw [if_neg (by omega), List.drop_of_length_le (by omega)]
    rfl
  | succ d ih =>
    intro k i hi hk
    obtain ⟨k, rfl⟩ : ∃ m, k = m + 1 := ⟨k - 1, by omega⟩
    have hlt : i < w.length := by omega
    simp only [spec_l18Places.l0]
    rw [if_pos (by omega), if_pos (by omega), rd_nat w i hlt, List.drop_eq_getElem_cons hlt, idx]
    by_cases h : w[i] = x
    · rw [if_pos h, if_pos h, if_pos (by omega), if_neg (by omega)]
      congr 2 <;> omega
    · rw [if_neg h, if_neg h, w_id (by omega) (by omega), show ((i : Int) + 1) = ((i + 1 : Nat) : Int) by omega, ih k (i + 1) (by omega) (by omega)]
      by_cases h2 : idx (w.drop (i + 1)) x < 0
      · rw [if_pos h2, if_pos h2, if_pos (by omega)]
      · rw [if_neg h2, if_neg h2, if_neg (by omega)]
        congr 2
        omega
theorem places_one (w : List Int) (hx : w.length ≤ 1000000000) (x : Int) : ∀ (d k i : Nat), i + d = w.length → d < k →
    spec_l18Places.l0 k w x (-1) (i : Int) = some (if idx (w.drop i) x < 0 then (-1, -1) else if idx (w.drop (i + (idx (w.drop i) x).toNat + 1)) x < 0 then (-1, -1) else (i + idx (w.drop i) x, i + idx (w.drop i) x + 1 + idx (w.drop (i + (idx (w.drop i) x).toNat + 1)) x)) := by
  intro d
  induction d with
  | zero =>
    intro k i hi hk
    obtain ⟨k, rfl⟩ : ∃ m, k = m + 1 := ⟨k - 1, by omega⟩
    simp only [spec_l18Places.l0]
    rw [if_neg (by omega), List.drop_of_length_le (show w.length ≤ i by omega)]
    rfl
  | succ d ih =>
    intro k i hi hk
    obtain ⟨k, rfl⟩ : ∃ m, k = m + 1 := ⟨k - 1, by omega⟩
    have hlt : i < w.length := by omega
    have hd := List.drop_eq_getElem_cons hlt
    simp only [spec_l18Places.l0]
    rw [if_pos (by omega), if_pos (by omega), rd_nat w i hlt]
    by_cases h : w[i] = x
    · have e : idx (w.drop i) x = 0 := by rw [hd, idx, if_pos h]
      rw [if_pos h, if_neg (by omega), w_id (by omega) (by omega), show ((i : Int) + 1) = ((i + 1 : Nat) : Int) by omega, places_two w hx x (i : Int) (by omega) d k (i + 1) (by omega) (by omega), e]
      simp only [Int.lt_irrefl, if_false, Int.toNat_zero, Nat.add_zero, Int.add_zero]
      by_cases h2 : idx (w.drop (i + 1)) x < 0
      · rw [if_pos h2, if_pos h2]
      · rw [if_neg h2, if_neg h2]
        congr 2 <;> omega
    · rw [if_neg h, w_id (by omega) (by omega), show ((i : Int) + 1) = ((i + 1 : Nat) : Int) by omega, ih k (i + 1) (by omega) (by omega)]
      by_cases h2 : idx (w.drop (i + 1)) x < 0
      · have e : idx (w.drop i) x = -1 := by rw [hd, idx, if_neg h, if_pos h2]
        rw [if_pos h2, e, if_pos (by omega)]
      · have e : idx (w.drop i) x = idx (w.drop (i + 1)) x + 1 := by rw [hd, idx, if_neg h, if_neg h2]
        rw [if_neg h2, e, if_neg (show ¬ (idx (w.drop (i + 1)) x + 1 < 0) by omega)]
        rw [show i + (idx (w.drop (i + 1)) x + 1).toNat + 1 = i + 1 + (idx (w.drop (i + 1)) x).toNat + 1 by omega]
        by_cases h3 : idx (w.drop (i + 1 + (idx (w.drop (i + 1)) x).toNat + 1)) x < 0
        · rw [if_pos h3, if_pos h3]
        · rw [if_neg h3, if_neg h3]
          congr 2 <;> omega
theorem spec_places (w : List Int) (hx : w.length ≤ 1000000000) (x : Int) (k : Nat) (hk : w.length < k) : spec_l18Places.f k w x = some (pl w x) := by
  unfold spec_l18Places.f
  have h := places_one w hx x w.length k 0 (by omega) hk
  rw [List.drop_zero] at h
  rw [show ((0 : Int)) = ((0 : Nat) : Int) from rfl, h]
  unfold pl
  congr 1
  split
  · rfl
  · rw [show 0 + (idx w x).toNat + 1 = (idx w x).toNat + 1 by omega]
    split
    · rfl
    · congr 1 <;> omega
theorem cnt_pos_eq {w : List Int} (hw : ∀ y ∈ w, 1 ≤ y) {x : Int} : x ∉ w → 1 ≤ x → cnt w x = 0 := by
  intro h hx
  by_cases h0 : cnt w x = 0
  · exact h0
  · obtain ⟨y, hy, e⟩ := (cnt_ne w x).1 h0
    have := hw y hy
    have e2 : y = x := by omega
    rw [e2] at hy
    exact absurd hy h
/-- In a word in which a letter occurs twice or not at all, its second place is there if the first is. -/
theorem second {w : List Int} (hw : ∀ y ∈ w, 1 ≤ y) {x : Int} (hc : x ∈ w → cnt w x = 2) (h : 0 ≤ idx w x) : 0 ≤ idx (w.drop ((idx w x).toNat + 1)) x := by
  rcases idx_bd w x with hb | hb
  · omega
  · have hlt : (idx w x).toNat < w.length := by omega
    have hat := idx_at w x h hlt
    have hm := (idx_mem w x).1 h
    have hx := hw x hm
    rcases Int.lt_or_le (idx (w.drop ((idx w x).toNat + 1)) x) 0 with h2 | h2
    · exfalso
      have n1 : x ∉ w.drop ((idx w x).toNat + 1) := fun hm2 => by have := (idx_mem _ _).2 hm2; omega
      have n2 : x ∉ w.take (idx w x).toNat := by
        intro hm2
        obtain ⟨j, hj, e⟩ := List.getElem_of_mem hm2
        rw [List.length_take] at hj
        rw [List.getElem_take] at e
        exact idx_before w x j (by omega) (by omega) e
      have e : w = w.take (idx w x).toNat ++ (x :: w.drop ((idx w x).toNat + 1)) := by
        conv => lhs; rw [← List.take_append_drop (idx w x).toNat w]
        rw [List.drop_eq_getElem_cons hlt, hat]
      have c1 := cnt_pos_eq (fun y hy => hw y (List.mem_of_mem_drop hy)) n1 hx
      have c2 := cnt_pos_eq (fun y hy => hw y (List.mem_of_mem_take hy)) n2 hx
      have c3 := hc hm
      rw [e, cnt_append, cnt, c1, c2] at c3
      split at c3 <;> omega
    · exact h2
theorem impl_places (w : List Int) (hx : w.length ≤ 1000000) (x : Int) (hw : ∀ y ∈ w, 1 ≤ y) (hc : x ∈ w → cnt w x = 2) (k : Nat) (hk : w.length < k) : impl_placesOf.f k w x = some (pl w x) := by
  unfold impl_placesOf.f pl
  rw [indexOf_eq w (by omega) x k hk, Option.bind_some]
  rcases idx_bd w x with hb | hb
  · rw [hb, w_id (by omega) (by omega)]
    rw [if_pos (by omega), if_pos (by omega), show ((-1 : Int) + 1).toNat = 0 from rfl, List.drop_zero, indexOf_eq w (by omega) x k hk, Option.bind_some, hb, if_pos (by omega), w_id (by omega) (by omega)]
    rfl
  · have h2 := second hw hc hb.1
    rw [w_id (by omega) (by omega), if_pos (by omega), if_pos (by omega), show (idx w x + 1).toNat = (idx w x).toNat + 1 by omega, indexOf_eq _ (by rw [List.length_drop]; omega) x k (by rw [List.length_drop]; omega), Option.bind_some]
    have hb2 := idx_bd (w.drop ((idx w x).toNat + 1)) x
    rw [List.length_drop] at hb2
    rw [w_id (by omega) (by omega), if_neg (by omega), if_neg (by omega)]
def lk (w : List Int) (x y : Int) : Bool := (decide ((pl w x).1 < (pl w y).1 ∧ (pl w y).1 < (pl w x).2)) != (decide ((pl w x).1 < (pl w y).2 ∧ (pl w y).2 < (pl w x).2))
theorem spec_lk (w : List Int) (hx : w.length ≤ 1000000) (x y : Int) (k : Nat) (hk : w.length < k) : spec_l18Linked.f k w x y = some (lk w x y) := by
  unfold spec_l18Linked.f lk
  rw [spec_places w (by omega) x k hk, spec_places w (by omega) y k hk, Option.bind_some, Option.bind_some]
  by_cases h1 : (pl w x).1 < (pl w y).1 <;> by_cases h2 : (pl w x).1 < (pl w y).2 <;> simp [h1, h2]
theorem impl_lk (w : List Int) (hx : w.length ≤ 1000000) (x y : Int) (hw : ∀ y ∈ w, 1 ≤ y) (hc : ∀ z ∈ w, cnt w z = 2) (k : Nat) (hk : w.length < k) : impl_linked.f k w x y = some (lk w x y) := by
  unfold impl_linked.f lk
  rw [impl_places w hx x hw (hc x) k hk, impl_places w hx y hw (hc y) k hk, Option.bind_some, Option.bind_some]
  by_cases h1 : (pl w x).1 < (pl w y).1 <;> by_cases h2 : (pl w x).1 < (pl w y).2 <;> simp [h1, h2]
theorem cw_pos {w : List Int} (h : cw w = true) : ∀ y ∈ w, 1 ≤ y := fun y hy => ((cw_true h).2 y hy).1.1
theorem cw_two {w : List Int} (h : cw w = true) : ∀ y ∈ w, cnt w y = 2 := fun y hy => ((cw_true h).2 y hy).2
theorem cw_mem {w : List Int} (h : cw w = true) (x : Int) : (x ∈ w) ↔ (1 ≤ x ∧ cnt w x = 2) := by
  constructor
  · intro hx; exact ⟨cw_pos h x hx, cw_two h x hx⟩
  · rintro ⟨h1, h2⟩
    obtain ⟨y, hy, e⟩ := (cnt_ne w x).1 (by omega)
    have := cw_pos h y hy
    have e2 : y = x := by omega
    rw [← e2]
    exact hy
def linkR (w : List Int) (x y : Int) : Bool := cw w && decide (x ≠ y ∧ x ∈ w ∧ y ∈ w) && lk w x y
theorem spec_linked (w : List Int) (hx : w.length ≤ 1048576) (x y : Int) (k : Nat) (hk : 1048577 < k) : spec_AreLinked.f k w x y = some (linkR w x y) := by
  unfold spec_AreLinked.f linkR
  rw [spec_cw w hx k hk, Option.bind_some]
  by_cases h : cw w = true
  · obtain ⟨h1, h2⟩ := cw_true h
    rw [if_pos h, spec_count w (by omega) (cw_small h) x k (by omega), spec_count w (by omega) (cw_small h) y k (by omega), Option.bind_some, Option.bind_some, spec_lk w (by omega) x y k (by omega), h]
    by_cases h3 : x = y
    · rw [if_pos h3, decide_eq_false (fun h => h.1 h3)]; rfl
    · rw [if_neg h3]
      by_cases h4 : cnt w x = 2
      · rw [if_pos h4]
        by_cases h5 : cnt w y = 2
        · rw [if_pos h5]
          by_cases h6 : x < 1
          · rw [if_pos h6, decide_eq_false (fun h' => by have := (cw_mem h x).1 h'.2.1; omega)]; rfl
          · rw [if_neg h6]
            by_cases h7 : y < 1
            · rw [if_pos h7, decide_eq_false (fun h' => by have := (cw_mem h y).1 h'.2.2; omega)]; rfl
            · rw [if_neg h7, decide_eq_true ⟨h3, (cw_mem h x).2 ⟨by omega, h4⟩, (cw_mem h y).2 ⟨by omega, h5⟩⟩]
              rfl
        · rw [if_neg h5, decide_eq_false (fun h' => h5 ((cw_mem h y).1 h'.2.2).2)]; rfl
      · rw [if_neg h4, decide_eq_false (fun h' => h4 ((cw_mem h x).1 h'.2.1).2)]; rfl
  · rw [if_neg h, Bool.eq_false_iff.2 h]; rfl
theorem impl_linkedA (w : List Int) (hx : w.length ≤ 1048576) (x y : Int) (k : Nat) (hk : 1048577 < k) : impl_AreLinked.f k w x y = some (linkR w x y) := by
  unfold impl_AreLinked.f linkR
  rw [impl_cw w hx k hk, Option.bind_some]
  by_cases h : cw w = true
  · obtain ⟨h1, h2⟩ := cw_true h
    rw [if_pos h, indexOf_eq w (by omega) x k (by omega), indexOf_eq w (by omega) y k (by omega), Option.bind_some, Option.bind_some, impl_lk w (by omega) x y (cw_pos h) (cw_two h) k (by omega), h]
    have hx1 := idx_mem w x
    have hy1 := idx_mem w y
    by_cases h3 : x = y
    · rw [if_pos h3, decide_eq_false (fun h => h.1 h3)]; rfl
    · rw [if_neg h3]
      by_cases h4 : idx w x ≥ 0
      · rw [if_pos h4]
        by_cases h5 : idx w y ≥ 0
        · rw [if_pos h5, decide_eq_true ⟨h3, hx1.1 h4, hy1.1 h5⟩]; rfl
        · rw [if_neg h5, decide_eq_false (fun h' => h5 (hy1.2 h'.2.2))]; rfl
      · rw [if_neg h4, decide_eq_false (fun h' => h4 (hx1.2 h'.2.1))]; rfl
  · rw [if_neg h, Bool.eq_false_iff.2 h]; rfl
end Go.Proofs.Ytfcdomcnkeeffaa.L

namespace Go.Proofs.Ytfcdomcnkeeffaa.L
open Go.RowKit Go.Proofs.Ytfcdomcnkeeffaa.P Go.Proofs.Ytfcdomcnkeeffaa.Help Go.Proofs.YtfcdomcnkeeffaaW.PrintWords
set_option linter.unusedVariables false
set_option linter.unusedSimpArgs false

/-- The letters of a word from a number on, n numbers. -/
def lettersF (w : List Int) : Nat → Nat → List Int
  | 0, _ => []
  | n + 1, i => if cnt w (i : Int) > 0 then (i : Int) :: lettersF w n (i + 1) else lettersF w n (i + 1)
theorem lettersF_len (w : List Int) : ∀ n i, (lettersF w n i).length ≤ n
  | 0, _ => by simp [lettersF]
  | n + 1, i => by
    have := lettersF_len w n (i + 1)
    rw [lettersF]
    split
    · rw [List.length_cons]; omega
    · omega
theorem letters_l0 (w : List Int) : ∀ (d k i : Nat) (o : List Int), i + d = 9 → d < k → o.length ≤ i → impl_lettersOf.l0 k o (cl w) 9 (i : Int) = some (o ++ lettersF w d i) := by
  intro d
  induction d with
  | zero =>
    intro k i o hi hk ho
    obtain ⟨k, rfl⟩ : ∃ m, k = m + 1 := ⟨k - 1, by omega⟩
    simp only [impl_lettersOf.l0, lettersF]
    rw [if_neg (by omega), List.append_nil]
  | succ d ih =>
    intro k i o hi hk ho
    obtain ⟨k, rfl⟩ : ∃ m, k = m + 1 := ⟨k - 1, by omega⟩
    have hlt : i < (cl w).length := by rw [cl_len]; omega
    simp only [impl_lettersOf.l0, lettersF]
    rw [if_pos (by omega), if_pos (by omega), cl_len, if_pos (by omega), rd_nat _ i hlt, cl_get, w_id (by omega) (by omega), show ((i : Int) + 1) = ((i + 1 : Nat) : Int) by omega]
    by_cases h : cnt w (i : Int) > 0
    · rw [if_pos h, if_pos h, if_pos (by omega), ih k (i + 1) _ (by omega) (by omega) (by simp; omega)]
      simp
    · rw [if_neg h, if_neg h, ih k (i + 1) o (by omega) (by omega) (by omega)]
def letters (w : List Int) : List Int := lettersF w 9 0
theorem impl_letters {w : List Int} (h : cw w = true) (k : Nat) (hk : 50 < k) : impl_lettersOf.f k w = some (letters w) := by
  unfold impl_lettersOf.f
  obtain ⟨h1, _⟩ := cw_true h
  rw [crossings_eq w (by omega) (cw_small h) k (by omega), Option.bind_some, cl_len]
  exact letters_l0 w 9 k 0 [] (by omega) (by omega) (by simp)
theorem lettersF_pos {w : List Int} : ∀ n i, ∀ x ∈ lettersF w n i, cnt w x > 0 ∧ (i : Int) ≤ x
  | 0, _, x, h => by simp [lettersF] at h
  | n + 1, i, x, h => by
    rw [lettersF] at h
    split at h
    · rcases List.mem_cons.1 h with rfl | h
      · exact ⟨by assumption, by omega⟩
      · have := lettersF_pos n (i + 1) x h
        exact ⟨this.1, by omega⟩
    · have := lettersF_pos n (i + 1) x h
      exact ⟨this.1, by omega⟩
theorem cw_zero {w : List Int} (h : cw w = true) : cnt w 0 = 0 := by
  by_cases h0 : cnt w 0 = 0
  · exact h0
  · obtain ⟨y, hy, e⟩ := (cnt_ne w 0).1 h0
    have := cw_pos h y hy
    omega
theorem cw_cnt {w : List Int} (h : cw w = true) (x : Int) : cnt w x = 0 ∨ cnt w x = 2 := by
  by_cases h0 : cnt w x = 0
  · exact .inl h0
  · obtain ⟨y, hy, e⟩ := (cnt_ne w x).1 h0
    have := cw_pos h y hy
    have e2 : y = x := by omega
    rw [← e2]
    exact .inr (cw_two h y hy)
/-- How many letters of a list are linked with a letter. -/
def linksOf (w : List Int) (x : Int) : List Int → Int
  | [] => 0
  | y :: ys => (if x ≠ y ∧ lk w x y = true then 1 else 0) + linksOf w x ys
theorem linksOf_bd (w : List Int) (x : Int) : ∀ l, 0 ≤ linksOf w x l ∧ linksOf w x l ≤ l.length
  | [] => by simp [linksOf]
  | y :: ys => by
    have := linksOf_bd w x ys
    rw [linksOf, List.length_cons]
    split <;> omega
theorem bit_eq (b : Bool) : spec_l1Bit.f b = some (if b = true then 1 else 0) := by
  unfold spec_l1Bit.f
  split <;> rfl
theorem spec_row_l1 {w : List Int} (h : cw w = true) (x : Int) (o : List Int) (ho : o.length ≤ 20) : ∀ (d k j : Nat) (n : Int), j + d = 9 → 1 ≤ j → d + 30 < k → 0 ≤ n → n + d ≤ 100 → 1 ≤ x → x ≤ 8 →
    spec_LinkRow.l1 k w o x n (j : Int) = spec_LinkRow.l0 (k - d - 1) w (o ++ [n + linksOf w x (lettersF w d j)]) (x + 1) := by
  intro d
  obtain ⟨h1, _⟩ := cw_true h
  induction d with
  | zero =>
    intro k j n hj hj1 hk h0 hn hx0 hx1
    obtain ⟨k, rfl⟩ : ∃ m, k = m + 1 := ⟨k - 1, by omega⟩
    conv => lhs; unfold spec_LinkRow.l1
    rw [if_neg (by omega), if_pos (by omega), w_id (by omega) (by omega)]
    simp [lettersF, linksOf]
  | succ d ih =>
    intro k j n hj hj1 hk h0 hn hx0 hx1
    obtain ⟨k, rfl⟩ : ∃ m, k = m + 1 := ⟨k - 1, by omega⟩
    conv => lhs; unfold spec_LinkRow.l1
    rw [if_pos (by omega), bit_eq, spec_count w (by omega) (cw_small h) _ k (by omega), spec_lk w (by omega) x _ k (by omega), w_id (a := (j : Int) + 1) (by omega) (by omega), show ((j : Int) + 1) = ((j + 1 : Nat) : Int) by omega]
    simp only [Option.bind_some, Bool.false_eq_true, if_false, Int.add_zero, lettersF]
    rw [w_id (a := n) (by omega) (by omega), show k + 1 - (d + 1) - 1 = k - d - 1 by omega]
    have h0' := ih k (j + 1) n (by omega) (by omega) (by omega) h0 (by omega) hx0 hx1
    rcases cw_cnt h (j : Int) with hc | hc
    · rw [hc, if_neg (show ¬ (0 : Int) = 2 by decide), if_neg (show ¬ (0 : Int) > 0 by decide), h0']
      split <;> rfl
    · rw [hc, if_pos (show (2 : Int) = 2 from rfl), if_pos (show (2 : Int) > 0 by decide)]
      by_cases hx : (j : Int) = x
      · rw [if_pos hx, h0', linksOf, if_neg (fun h => h.1 hx.symm), Int.zero_add]
      · rw [if_neg hx, bit_eq, Option.bind_some]
        by_cases hl : lk w x (j : Int) = true
        · rw [if_pos hl, w_id (by omega) (by omega), ih k (j + 1) (n + 1) (by omega) (by omega) (by omega) (by omega) (by omega) hx0 hx1, linksOf, if_pos ⟨Ne.symm hx, hl⟩]
          congr 3
          omega
        · rw [if_neg hl, Int.add_zero, w_id (by omega) (by omega), h0', linksOf, if_neg (fun h => hl h.2), Int.zero_add]
def rowF (w : List Int) : Nat → Nat → List Int
  | 0, _ => []
  | n + 1, i => if cnt w (i : Int) > 0 then linksOf w (i : Int) (letters w) :: rowF w n (i + 1) else rowF w n (i + 1)
theorem letters_tail {w : List Int} (h : cw w = true) : letters w = lettersF w 8 1 := by
  unfold letters
  rw [lettersF, if_neg (by rw [show (((0 : Nat) : Int)) = 0 from rfl, cw_zero h]; decide)]
theorem spec_row_l0 {w : List Int} (h : cw w = true) : ∀ (d k i : Nat) (o : List Int), i + d = 9 → 1 ≤ i → 20 * d + 1048600 < k → o.length ≤ i → spec_LinkRow.l0 k w o (i : Int) = some (o ++ rowF w d i) := by
  intro d
  obtain ⟨h1, _⟩ := cw_true h
  induction d with
  | zero =>
    intro k i o hi hi1 hk ho
    obtain ⟨k, rfl⟩ : ∃ m, k = m + 2 := ⟨k - 2, by omega⟩
    conv => lhs; unfold spec_LinkRow.l0; unfold spec_LinkRow.j1
    rw [if_neg (by omega)]
    simp [rowF]
  | succ d ih =>
    intro k i o hi hi1 hk ho
    obtain ⟨k, rfl⟩ : ∃ m, k = m + 2 := ⟨k - 2, by omega⟩
    conv => lhs; unfold spec_LinkRow.l0; unfold spec_LinkRow.j1
    rw [if_pos (by omega), spec_cw w (by omega) _ (by omega), Option.bind_some, h, if_pos rfl, spec_count w (by omega) (cw_small h) _ k (by omega), Option.bind_some, w_id (by omega) (by omega)]
    simp only [rowF]
    have hb := cnt_bd w (i : Int)
    by_cases hc : cnt w (i : Int) = 0
    · rw [if_pos hc, if_neg (by omega), show ((i : Int) + 1) = ((i + 1 : Nat) : Int) by omega, ih k (i + 1) o (by omega) (by omega) (by omega) (by omega)]
    · have hl := spec_row_l1 h (i : Int) o (by omega) 8 k 1 0 (by omega) (by omega) (by omega) (by omega) (by omega) (by omega) (by omega)
      rw [← letters_tail h, Int.zero_add] at hl
      rw [if_neg hc, if_pos (by omega), show (1 : Int) = ((1 : Nat) : Int) from rfl, hl]
      have h2 := ih (k - 8 - 1) (i + 1) (o ++ [linksOf w (i : Int) (letters w)]) (by omega) (by omega) (by omega) (by simp; omega)
      rw [show (((i + 1 : Nat)) : Int) = (i : Int) + 1 by omega] at h2
      refine h2.trans ?_
      rw [List.append_assoc]
      rfl
def rowR (w : List Int) : List Int := if cw w = true then rowF w 8 1 else []
theorem rowF_len (w : List Int) : ∀ n i, (rowF w n i).length ≤ n
  | 0, _ => by simp [rowF]
  | n + 1, i => by
    have := rowF_len w n (i + 1)
    rw [rowF]
    split
    · rw [List.length_cons]; omega
    · omega
theorem rowR_len (w : List Int) : (rowR w).length ≤ 8 := by
  unfold rowR
  split
  · exact rowF_len _ _ _
  · simp
theorem spec_row (w : List Int) (hx : w.length ≤ 1048576) (k : Nat) (hk : 1060000 < k) : spec_LinkRow.f k w = some (rowR w) := by
  unfold spec_LinkRow.f rowR
  by_cases h : cw w = true
  · rw [if_pos h]
    exact spec_row_l0 h 8 k 1 [] (by omega) (by omega) (by omega) (by simp)
  · rw [if_neg h]
    obtain ⟨k, rfl⟩ : ∃ m, k = m + 2 := ⟨k - 2, by omega⟩
    conv => lhs; unfold spec_LinkRow.l0; unfold spec_LinkRow.j1
    rw [if_pos (by decide), spec_cw w hx _ (by omega), Option.bind_some, if_neg h]
theorem impl_row_l1 {w : List Int} (h : cw w = true) (x : Int) (o L : List Int) (ho : o.length ≤ 20) (a : Int) (ha : 0 ≤ a ∧ a ≤ 100) (l : List Int) (hl : l.length ≤ 20) : ∀ (d k j : Nat) (n : Int), j + d = l.length → d + 30 < k → 0 ≤ n → n + d ≤ 100 →
    impl_LinkRow.l1 k w o x n L (L.length : Int) a l (l.length : Int) (j : Int) = impl_LinkRow.l0 (k - d - 1) w (o ++ [n + linksOf w x (l.drop j)]) L (L.length : Int) (a + 1) := by
  intro d
  obtain ⟨h1, _⟩ := cw_true h
  induction d with
  | zero =>
    intro k j n hj hk h0 hn
    obtain ⟨k, rfl⟩ : ∃ m, k = m + 1 := ⟨k - 1, by omega⟩
    conv => lhs; unfold impl_LinkRow.l1
    rw [if_neg (by omega), if_pos (by omega), w_id (by omega) (by omega), List.drop_of_length_le (by omega)]
    simp [linksOf]
  | succ d ih =>
    intro k j n hj hk h0 hn
    obtain ⟨k, rfl⟩ : ∃ m, k = m + 1 := ⟨k - 1, by omega⟩
    have hlt : j < l.length := by omega
    conv => lhs; unfold impl_LinkRow.l1
    rw [if_pos (by omega), if_pos (by omega), if_pos (by omega), rd_nat l j hlt, impl_lk w (by omega) x _ (cw_pos h) (cw_two h) k (by omega), Option.bind_some, w_id (a := (j : Int) + 1) (by omega) (by omega), w_id (a := n + 1) (by omega) (by omega), show ((j : Int) + 1) = ((j + 1 : Nat) : Int) by omega, List.drop_eq_getElem_cons hlt, linksOf, show k + 1 - (d + 1) - 1 = k - d - 1 by omega]
    have h0' := ih k (j + 1) n (by omega) (by omega) h0 (by omega)
    by_cases hx : x = l[j]
    · rw [if_pos hx, h0', if_neg (fun h => h.1 hx), Int.zero_add]
    · rw [if_neg hx]
      by_cases hl2 : lk w x l[j] = true
      · rw [if_pos hl2, ih k (j + 1) (n + 1) (by omega) (by omega) (by omega) (by omega), if_pos ⟨hx, hl2⟩]
        congr 3
        omega
      · rw [if_neg hl2, h0', if_neg (fun h => hl2 h.2), Int.zero_add]
theorem impl_row_l0 {w : List Int} (h : cw w = true) (L : List Int) (hL : L.length ≤ 20) : ∀ (d k i : Nat) (o : List Int), i + d = L.length → 50 * d + 100 < k → o.length ≤ i → impl_LinkRow.l0 k w o L (L.length : Int) (i : Int) = some (o ++ (L.drop i).map (fun x => linksOf w x (letters w))) := by
  intro d
  obtain ⟨h1, _⟩ := cw_true h
  induction d with
  | zero =>
    intro k i o hi hk ho
    obtain ⟨k, rfl⟩ : ∃ m, k = m + 1 := ⟨k - 1, by omega⟩
    conv => lhs; unfold impl_LinkRow.l0
    rw [if_neg (by omega), List.drop_of_length_le (by omega)]
    simp
  | succ d ih =>
    intro k i o hi hk ho
    obtain ⟨k, rfl⟩ : ∃ m, k = m + 1 := ⟨k - 1, by omega⟩
    have hlt : i < L.length := by omega
    have hll : (letters w).length ≤ 9 := lettersF_len w 9 0
    conv => lhs; unfold impl_LinkRow.l0
    rw [if_pos (by omega), if_pos (by omega), if_pos (by omega), impl_letters h k (by omega), Option.bind_some, rd_nat L i hlt]
    have hl := impl_row_l1 h L[i] o L (by omega) (i : Int) (by omega) (letters w) (by omega) (letters w).length k 0 0 (by omega) (by omega) (by omega) (by omega)
    rw [List.drop_zero, Int.zero_add] at hl
    rw [show (0 : Int) = ((0 : Nat) : Int) from rfl]
    rw [show (((0 : Nat) : Int)) = 0 from rfl] at hl ⊢
    rw [hl, show ((i : Int) + 1) = ((i + 1 : Nat) : Int) by omega, ih _ (i + 1) _ (by omega) (by omega) (by simp; omega), List.drop_eq_getElem_cons hlt, List.map_cons, List.append_assoc]
    rfl
theorem rowF_map (w : List Int) : ∀ n i, rowF w n i = (lettersF w n i).map (fun x => linksOf w x (letters w))
  | 0, _ => rfl
  | n + 1, i => by
    rw [rowF, lettersF]
    split
    · rw [List.map_cons, rowF_map w n (i + 1)]
    · exact rowF_map w n (i + 1)
theorem impl_row (w : List Int) (hx : w.length ≤ 1048576) (k : Nat) (hk : 1060000 < k) : impl_LinkRow.f k w = some (rowR w) := by
  unfold impl_LinkRow.f rowR
  rw [impl_cw w hx k (by omega), Option.bind_some]
  by_cases h : cw w = true
  · have hll : (letters w).length ≤ 9 := lettersF_len w 9 0
    rw [if_pos h, if_pos h, impl_letters h k (by omega), Option.bind_some, rowF_map, ← letters_tail h]
    have := impl_row_l0 h (letters w) (by omega) (letters w).length k 0 [] (by omega) (by omega) (by simp)
    rw [List.drop_zero, List.nil_append] at this
    exact this
  · rw [if_neg h, if_neg h]
end Go.Proofs.Ytfcdomcnkeeffaa.L

namespace Go.Proofs.Ytfcdomcnkeeffaa.L
open Go.RowKit Go.Proofs.Ytfcdomcnkeeffaa.P Go.Proofs.Ytfcdomcnkeeffaa.Help Go.Proofs.YtfcdomcnkeeffaaW.PrintWords
set_option linter.unusedVariables false
set_option linter.unusedSimpArgs false

theorem divmodC {a b q r : Int} (hb : 0 < b) (h : r + b * q = a) (h0 : 0 ≤ r) (h1 : r < b) : a / b = q ∧ a % b = r := (Int.ediv_emod_unique hb).2 ⟨h, h0, h1⟩
/-- The place ahead, around. -/
def pr (p n : Int) : Int := if p = 0 then n - 1 else p - 1
theorem pr_bd {p n : Int} (h0 : 0 ≤ p) (h1 : p < n) : 0 ≤ pr p n ∧ pr p n < n := by
  unfold pr
  split <;> omega
theorem pr_inj {p q n : Int} (h0 : 0 ≤ p ∧ p < n) (h1 : 0 ≤ q ∧ q < n) (h : p ≠ q) : pr p n ≠ pr q n := by
  unfold pr
  split <;> split <;> omega
theorem pr_spec {p n : Int} (h0 : 0 ≤ p) (h1 : p < n) : (p + n - 1).tmod n = pr p n := by
  rw [Int.tmod_eq_emod_of_nonneg (by omega)]
  unfold pr
  by_cases h : p = 0
  · rw [if_pos h]
    exact (divmodC (q := 0) (by omega) (by omega) (by omega) (by omega)).2
  · rw [if_neg h]
    exact (divmodC (q := 1) (by omega) (by omega) (by omega) (by omega)).2
theorem pr_impl {p n : Int} (h0 : 0 ≤ p) (h1 : p < n) (h2 : 2 ≤ n) (h3 : n ≤ 100) : impl_mod.f (p - 1) n = some (pr p n) := by
  unfold impl_mod.f pr
  rw [if_neg (by omega)]
  by_cases h : p = 0
  · have e : (p - 1).tmod n = -1 := by
      rw [h, show (0 : Int) - 1 = -1 by omega, Int.neg_tmod]
      congr 1
      exact Int.tmod_eq_of_lt (by omega) (by omega)
    rw [if_pos h, e, if_pos (by omega), w_id (by omega) (by omega)]
    congr 1
    omega
  · have e : (p - 1).tmod n = p - 1 := Int.tmod_eq_of_lt (by omega) (by omega)
    rw [if_neg h, e, if_neg (by omega)]
/-- Four darts in a ring. -/
def ring4 (m : List Int) (a b c d : Int) : List Int := (((m.set a.toNat b).set b.toNat c).set c.toNat d).set d.toNat a
theorem ring4_len (m : List Int) (a b c d : Int) : (ring4 m a b c d).length = m.length := by simp [ring4]
theorem spec_ring (m : List Int) (a b c d : Int) (ha : 0 ≤ a ∧ a < m.length) (hb : 0 ≤ b ∧ b < m.length) (hc : 0 ≤ c ∧ c < m.length) (hd : 0 ≤ d ∧ d < m.length) (k : Nat) (hk : 5 < k) : spec_l7Ring.f k m [a, b, c, d] = some (ring4 m a b c d) := by
  obtain ⟨k, rfl⟩ : ∃ m, k = m + 5 := ⟨k - 5, by omega⟩
  have e0 : Int.tmod (wrap64 (0 + 1)) 4 = 1 := by decide +kernel
  have e1 : Int.tmod (wrap64 (1 + 1)) 4 = 2 := by decide +kernel
  have e2 : Int.tmod (wrap64 (2 + 1)) 4 = 3 := by decide +kernel
  have e3 : Int.tmod (wrap64 (3 + 1)) 4 = 0 := by decide +kernel
  have w0 : wrap64 (0 + 1) = 1 := by decide +kernel
  have w1 : wrap64 (1 + 1) = 2 := by decide +kernel
  have w2 : wrap64 (2 + 1) = 3 := by decide +kernel
  have w3 : wrap64 (3 + 1) = 4 := by decide +kernel
  have r0 : rd [a, b, c, d] 0 = a := rfl
  have r1 : rd [a, b, c, d] 1 = b := rfl
  have r2 : rd [a, b, c, d] 2 = c := rfl
  have r3 : rd [a, b, c, d] 3 = d := rfl
  have l4 : (([a, b, c, d] : List Int).length : Int) = 4 := rfl
  unfold spec_l7Ring.f ring4
  rw [show k + 5 = (k + 4) + 1 from rfl]; unfold spec_l7Ring.l0
  rw [l4, e0, w0, r0, r1, if_pos (by decide), if_pos (by decide), if_neg (by decide), if_pos (by decide), if_pos (by decide), if_pos ha.1, if_pos ha.2]
  rw [show k + 4 = (k + 3) + 1 from rfl]; unfold spec_l7Ring.l0
  rw [l4, e1, w1, r1, r2, if_pos (by decide), if_pos (by decide), if_neg (by decide), if_pos (by decide), if_pos (by decide), if_pos hb.1, if_pos (by rw [List.length_set]; exact hb.2)]
  rw [show k + 3 = (k + 2) + 1 from rfl]; unfold spec_l7Ring.l0
  rw [l4, e2, w2, r2, r3, if_pos (by decide), if_pos (by decide), if_neg (by decide), if_pos (by decide), if_pos (by decide), if_pos hc.1, if_pos (by rw [List.length_set, List.length_set]; exact hc.2)]
  rw [show k + 2 = (k + 1) + 1 from rfl]; unfold spec_l7Ring.l0
  rw [l4, e3, w3, r3, r0, if_pos (by decide), if_pos (by decide), if_neg (by decide), if_pos (by decide), if_pos (by decide), if_pos hd.1, if_pos (by rw [List.length_set, List.length_set, List.length_set]; exact hd.2)]
  unfold spec_l7Ring.l0
  rw [l4, if_neg (by decide)]
/-- The bit of a set for a letter. -/
def bitOf (s x : Int) : Int := Go.bits .and .i64 (shr .i64 s (x - 1)) 1
/-- One crossing told. -/
def crossM (w : List Int) (s : Int) (m : List Int) (x : Int) : List Int :=
  if (pl w x).1 < 0 then m
  else if bitOf s x = 1 then ring4 m (2 * pr (pl w x).2 w.length + 1) (2 * pr (pl w x).1 w.length + 1) (2 * (pl w x).2) (2 * (pl w x).1)
  else ring4 m (2 * (pl w x).1) (2 * (pl w x).2) (2 * pr (pl w x).1 w.length + 1) (2 * pr (pl w x).2 w.length + 1)
theorem crossM_len (w : List Int) (s : Int) (m : List Int) (x : Int) : (crossM w s m x).length = m.length := by
  unfold crossM
  repeat' split
  all_goals first | rfl | exact ring4_len _ _ _ _ _
theorem pl_bd (w : List Int) (x : Int) : (pl w x = (-1, -1)) ∨ ((0 ≤ (pl w x).1 ∧ (pl w x).1 < (pl w x).2) ∧ (pl w x).2 < w.length) := by
  unfold pl
  rcases idx_bd w x with h | h
  · left; rw [h]; rfl
  · rw [if_neg (by omega)]
    rcases idx_bd (w.drop ((idx w x).toNat + 1)) x with h2 | h2
    · left; rw [h2]; rfl
    · right
      rw [List.length_drop] at h2
      rw [if_neg (by omega)]
      simp only
      omega
def mapF (w : List Int) (s : Int) : Nat → Nat → List Int → List Int
  | 0, _, m => m
  | n + 1, i, m => mapF w s n (i + 1) (crossM w s m (i : Int))
theorem u64_w {n : Int} (h0 : 0 ≤ n) (h1 : n ≤ 18446744073709551615) : IntKind.u64.wrap n = n := by
  simp only [IntKind.wrap, IntKind.bits, IntKind.signed, Bool.false_and, Bool.false_eq_true, if_false]
  omega
theorem spec_map_l0 (w : List Int) (s : Int) (hx : 2 ≤ w.length ∧ w.length ≤ 12) : ∀ (d k i : Nat) (m : List Int), i + d = 9 → 1 ≤ i → d + 50 < k → m.length = 2 * w.length → spec_l18Map.l0 k w s (w.length : Int) m (i : Int) = some (mapF w s d i m) := by
  intro d
  induction d with
  | zero =>
    intro k i m hi hi1 hk hm
    obtain ⟨k, rfl⟩ : ∃ m, k = m + 1 := ⟨k - 1, by omega⟩
    unfold spec_l18Map.l0
    rw [if_neg (by omega)]
    rfl
  | succ d ih =>
    intro k i m hi hi1 hk hm
    obtain ⟨k, rfl⟩ : ∃ m, k = m + 1 := ⟨k - 1, by omega⟩
    unfold spec_l18Map.l0
    rw [if_pos (by omega), spec_places w (by omega) _ k (by omega), Option.bind_some, w_id (a := (i : Int) + 1) (by omega) (by omega), show ((i : Int) + 1) = ((i + 1 : Nat) : Int) by omega]
    simp only [mapF]
    have hlen := crossM_len w s m (i : Int)
    rcases pl_bd w (i : Int) with h | ⟨h1, h2⟩
    · have e : crossM w s m (i : Int) = m := by
        unfold crossM
        rw [h]
        rfl
      rw [h, if_pos (by decide), e, ih k (i + 1) m (by omega) (by omega) (by omega) hm]
    · have p1 := pr_bd h1.1 (show (pl w (i : Int)).1 < (w.length : Int) by omega)
      have p2 := pr_bd (show 0 ≤ (pl w (i : Int)).2 by omega) h2
      have hc : ∀ m', m' = crossM w s m (i : Int) → spec_l18Map.l0 k w s (w.length : Int) m' ((i + 1 : Nat) : Int) = some (mapF w s d (i + 1) (crossM w s m (i : Int))) := by
        intro m' e
        rw [e]
        exact ih k (i + 1) _ (by omega) (by omega) (by omega) (by omega)
      rw [if_neg (by omega), if_neg (by omega)]
      simp only [Option.bind_some]
      rw [w_id (a := 2 * (pl w (i : Int)).1) (by omega) (by omega), w_id (a := 2 * (pl w (i : Int)).2) (by omega) (by omega), w_id (a := (pl w (i : Int)).1 + w.length) (by omega) (by omega), w_id (a := (pl w (i : Int)).1 + w.length - 1) (by omega) (by omega), pr_spec h1.1 (by omega),
        w_id (a := (pl w (i : Int)).2 + w.length) (by omega) (by omega), w_id (a := (pl w (i : Int)).2 + w.length - 1) (by omega) (by omega), pr_spec (show 0 ≤ (pl w (i : Int)).2 by omega) h2, w_id (a := 2 * pr (pl w (i : Int)).1 w.length) (by omega) (by omega), w_id (a := 2 * pr (pl w (i : Int)).2 w.length) (by omega) (by omega),
        w_id (a := 2 * pr (pl w (i : Int)).1 w.length + 1) (by omega) (by omega), w_id (a := 2 * pr (pl w (i : Int)).2 w.length + 1) (by omega) (by omega), w_id (a := (i : Int) - 1) (by omega) (by omega), u64_w (by omega) (by omega), if_pos (by omega)]
      by_cases hb : bitOf s (i : Int) = 1
      · rw [if_pos (show Go.bits .and .i64 (shr .i64 s ((i : Int) - 1)) 1 = 1 from hb), if_pos (by rw [List.length_cons, List.length_cons, List.length_cons, List.length_singleton]; decide), if_pos (by rw [List.length_cons, List.length_cons, List.length_cons, List.length_singleton]; decide), if_pos (by rw [List.length_cons, List.length_cons, List.length_cons, List.length_singleton]; decide), if_pos (by rw [List.length_cons, List.length_cons, List.length_cons, List.length_singleton]; decide)]
        rw [show ∀ a b c d : Int, rd [a, b, c, d] 3 = d from fun _ _ _ _ => rfl, show ∀ a b c d : Int, rd [a, b, c, d] 2 = c from fun _ _ _ _ => rfl, show ∀ a b c d : Int, rd [a, b, c, d] 1 = b from fun _ _ _ _ => rfl, show ∀ a b c d : Int, rd [a, b, c, d] 0 = a from fun _ _ _ _ => rfl]
        rw [spec_ring m _ _ _ _ (by omega) (by omega) (by omega) (by omega) k (by omega), Option.bind_some]
        apply hc
        unfold crossM
        rw [if_neg (by omega), if_pos hb]
      · rw [if_neg (show ¬ Go.bits .and .i64 (shr .i64 s ((i : Int) - 1)) 1 = 1 from hb), spec_ring m _ _ _ _ (by omega) (by omega) (by omega) (by omega) k (by omega), Option.bind_some]
        apply hc
        unfold crossM
        rw [if_neg (by omega), if_neg hb]
def mapR (w : List Int) (s : Int) : List Int := mapF w s 8 1 (List.replicate (2 * w.length) 0)
theorem mapF_len (w : List Int) (s : Int) : ∀ n i m, (mapF w s n i m).length = m.length
  | 0, _, _ => rfl
  | n + 1, i, m => by rw [mapF, mapF_len w s n, crossM_len]
theorem mapR_len (w : List Int) (s : Int) : (mapR w s).length = 2 * w.length := by
  unfold mapR
  rw [mapF_len]
  simp
theorem spec_map (w : List Int) (s : Int) (hx : 2 ≤ w.length ∧ w.length ≤ 12) (k : Nat) (hk : 60 < k) : spec_l18Map.f k w s = some (mapR w s) := by
  unfold spec_l18Map.f mapR
  rw [w_id (by omega) (by omega), if_pos (by omega), if_pos (by omega), show (2 * (w.length : Int)).toNat = 2 * w.length by omega]
  exact spec_map_l0 w s hx 8 k 1 _ (by omega) (by omega) (by omega) (by simp)
theorem set3 (m : List Int) {i j k : Nat} (x y z : Int) (h1 : i ≠ j) (h2 : i ≠ k) (h3 : j ≠ k) : ((m.set i x).set j y).set k z = ((m.set k z).set j y).set i x := by
  apply List.ext_getElem
  · simp
  · intro n h4 h5
    simp only [List.getElem_set]
    repeat' split
    all_goals first | rfl | omega
theorem impl_map_l1 (w : List Int) (s : Int) (n : Int) (a b c d : Int) (x : Int) (L : List Int) (LL j : Int) (m : List Int) (hx : 1 ≤ x ∧ x ≤ 8) (hj : 0 ≤ j ∧ j ≤ 100) (ha : 0 ≤ a ∧ a < m.length) (hb : 0 ≤ b ∧ b < m.length) (hc : 0 ≤ c ∧ c < m.length) (hd : 0 ≤ d ∧ d < m.length)
    (hne : a ≠ b ∧ a ≠ c ∧ a ≠ d ∧ b ≠ c ∧ b ≠ d ∧ c ≠ d) (k : Nat) :
    impl_crossingMap.l1 (k + 5) w s n m x [a, b, c, d] L LL j 0 = impl_crossingMap.l0 k w s n (if bitOf s x = 1 then ring4 m d c b a else ring4 m a b c d) L LL (j + 1) := by
  have e0 : Int.tmod (wrap64 (0 + 1)) 4 = 1 := by decide +kernel
  have e1 : Int.tmod (wrap64 (1 + 1)) 4 = 2 := by decide +kernel
  have e2 : Int.tmod (wrap64 (2 + 1)) 4 = 3 := by decide +kernel
  have e3 : Int.tmod (wrap64 (3 + 1)) 4 = 0 := by decide +kernel
  have w0 : wrap64 (0 + 1) = 1 := by decide +kernel
  have w1 : wrap64 (1 + 1) = 2 := by decide +kernel
  have w2 : wrap64 (2 + 1) = 3 := by decide +kernel
  have w3 : wrap64 (3 + 1) = 4 := by decide +kernel
  have r0 : rd [a, b, c, d] 0 = a := rfl
  have r1 : rd [a, b, c, d] 1 = b := rfl
  have r2 : rd [a, b, c, d] 2 = c := rfl
  have r3 : rd [a, b, c, d] 3 = d := rfl
  have l4 : (([a, b, c, d] : List Int).length : Int) = 4 := rfl
  have hw : wrap64 (x - 1) = x - 1 := w_id (by omega) (by omega)
  have hj1 : wrap64 (j + 1) = j + 1 := w_id (by omega) (by omega)
  have hL : ∀ (m' : List Int) (k' : Nat), impl_crossingMap.l1 (k' + 1) w s n m' x [a, b, c, d] L LL j 4 = impl_crossingMap.l0 k' w s n m' L LL (j + 1) := by
    intro m' k'
    conv => lhs; unfold impl_crossingMap.l1
    rw [if_neg (by decide), hj1]
  by_cases hbit : bitOf s x = 1
  · have hB : Go.bits .and .i64 (shr .i64 s (x - 1)) 1 = 1 := hbit
    have step : ∀ (m' : List Int) (k' : Nat) (i i' : Int), 0 ≤ i → i < 4 → 0 ≤ i' → i' < 4 → Int.tmod (wrap64 (i + 1)) 4 = i' → 0 ≤ rd [a, b, c, d] i' → rd [a, b, c, d] i' < m'.length →
        impl_crossingMap.l1 (k' + 1) w s n m' x [a, b, c, d] L LL j i = impl_crossingMap.l1 k' w s n (m'.set (rd [a, b, c, d] i').toNat (rd [a, b, c, d] i)) x [a, b, c, d] L LL j (wrap64 (i + 1)) := by
      intro m' k' i i' h0 h1 h2 h3 he h4 h5
      conv => lhs; unfold impl_crossingMap.l1
      rw [l4, he, hw, if_pos h1, if_pos h0, if_pos h1, if_pos h2, if_pos h3, if_pos (by omega), if_pos hB, if_pos h4, if_pos h5]
    rw [if_pos hbit, step m (k + 4) 0 1 (by decide) (by decide) (by decide) (by decide) e0 (by rw [r1]; exact hb.1) (by rw [r1]; exact hb.2), w0, r1, r0,
      step _ (k + 3) 1 2 (by decide) (by decide) (by decide) (by decide) e1 (by rw [r2]; exact hc.1) (by rw [r2, List.length_set]; exact hc.2), w1, r2, r1,
      step _ (k + 2) 2 3 (by decide) (by decide) (by decide) (by decide) e2 (by rw [r3]; exact hd.1) (by rw [r3, List.length_set, List.length_set]; exact hd.2), w2, r3, r2,
      step _ (k + 1) 3 0 (by decide) (by decide) (by decide) (by decide) e3 (by rw [r0]; exact ha.1) (by rw [r0, List.length_set, List.length_set, List.length_set]; exact ha.2), w3, r0, r3, hL]
    unfold ring4
    rw [set3 m (i := d.toNat) (j := c.toNat) (k := b.toNat) _ _ _ (by omega) (by omega) (by omega)]
  · have hB : ¬ Go.bits .and .i64 (shr .i64 s (x - 1)) 1 = 1 := hbit
    have step : ∀ (m' : List Int) (k' : Nat) (i i' : Int), 0 ≤ i → i < 4 → 0 ≤ i' → i' < 4 → Int.tmod (wrap64 (i + 1)) 4 = i' → 0 ≤ rd [a, b, c, d] i → rd [a, b, c, d] i < m'.length →
        impl_crossingMap.l1 (k' + 1) w s n m' x [a, b, c, d] L LL j i = impl_crossingMap.l1 k' w s n (m'.set (rd [a, b, c, d] i).toNat (rd [a, b, c, d] i')) x [a, b, c, d] L LL j (wrap64 (i + 1)) := by
      intro m' k' i i' h0 h1 h2 h3 he h4 h5
      conv => lhs; unfold impl_crossingMap.l1
      rw [l4, he, hw, if_pos h1, if_pos h0, if_pos h1, if_pos h2, if_pos h3, if_pos (by omega), if_neg hB, if_pos h4, if_pos h5]
    rw [if_neg hbit, step m (k + 4) 0 1 (by decide) (by decide) (by decide) (by decide) e0 (by rw [r0]; exact ha.1) (by rw [r0]; exact ha.2), w0, r1, r0,
      step _ (k + 3) 1 2 (by decide) (by decide) (by decide) (by decide) e1 (by rw [r1]; exact hb.1) (by rw [r1, List.length_set]; exact hb.2), w1, r2, r1,
      step _ (k + 2) 2 3 (by decide) (by decide) (by decide) (by decide) e2 (by rw [r2]; exact hc.1) (by rw [r2, List.length_set, List.length_set]; exact hc.2), w2, r3, r2,
      step _ (k + 1) 3 0 (by decide) (by decide) (by decide) (by decide) e3 (by rw [r3]; exact hd.1) (by rw [r3, List.length_set, List.length_set, List.length_set]; exact hd.2), w3, r0, r3, hL]
    rfl
theorem impl_map_l0 {w : List Int} (h : cw w = true) (s : Int) (L : List Int) (hL : L.length ≤ 20) (hLw : ∀ x ∈ L, x ∈ w) : ∀ (d k i : Nat) (m : List Int), i + d = L.length → 8 * d + 50 < k → m.length = 2 * w.length → impl_crossingMap.l0 k w s (w.length : Int) m L (L.length : Int) (i : Int) = some ((L.drop i).foldl (crossM w s) m) := by
  intro d
  obtain ⟨h1, hw⟩ := cw_true h
  induction d with
  | zero =>
    intro k i m hi hk hm
    obtain ⟨k, rfl⟩ : ∃ m, k = m + 1 := ⟨k - 1, by omega⟩
    conv => lhs; unfold impl_crossingMap.l0
    rw [if_neg (by omega), List.drop_of_length_le (by omega)]
    rfl
  | succ d ih =>
    intro k i m hi hk hm
    obtain ⟨k, rfl⟩ : ∃ m, k = m + 6 := ⟨k - 6, by omega⟩
    have hlt : i < L.length := by omega
    have hm1 := hLw L[i] (List.getElem_mem hlt)
    have hxb := hw L[i] hm1
    have hi0 : 0 ≤ idx w L[i] := (idx_mem w L[i]).2 hm1
    have hi2 := second (cw_pos h) (cw_two h L[i]) hi0
    have hpl : ¬ (pl w L[i]).1 < 0 := by
      unfold pl
      rw [if_neg (by omega), if_neg (by omega)]
      simp only
      omega
    rcases pl_bd w L[i] with hb | ⟨hb1, hb2⟩
    · rw [hb] at hpl; simp at hpl
    have p1 := pr_bd hb1.1 (show (pl w L[i]).1 < (w.length : Int) by omega)
    have p2 := pr_bd (show 0 ≤ (pl w L[i]).2 by omega) hb2
    have p3 := pr_inj (n := w.length) ⟨hb1.1, show (pl w L[i]).1 < (w.length : Int) by omega⟩ ⟨show 0 ≤ (pl w L[i]).2 by omega, hb2⟩ (by omega)
    rw [show k + 6 = (k + 5) + 1 from rfl]
    conv => lhs; unfold impl_crossingMap.l0
    rw [if_pos (by omega), if_pos (by omega), if_pos (by omega), rd_nat L i hlt, impl_places w (by omega) L[i] (cw_pos h) (cw_two h L[i]) _ (by omega), Option.bind_some, w_id (a := (pl w L[i]).1 - 1) (by omega) (by omega), w_id (a := (pl w L[i]).2 - 1) (by omega) (by omega),
      pr_impl hb1.1 (by omega) (by omega) (by omega), Option.bind_some, pr_impl (show 0 ≤ (pl w L[i]).2 by omega) hb2 (by omega) (by omega), Option.bind_some, w_id (a := 2 * (pl w L[i]).1) (by omega) (by omega), w_id (a := 2 * (pl w L[i]).2) (by omega) (by omega),
      w_id (a := 2 * pr (pl w L[i]).1 w.length) (by omega) (by omega), w_id (a := 2 * pr (pl w L[i]).2 w.length) (by omega) (by omega), w_id (a := 2 * pr (pl w L[i]).1 w.length + 1) (by omega) (by omega), w_id (a := 2 * pr (pl w L[i]).2 w.length + 1) (by omega) (by omega)]
    rw [impl_map_l1 w s (w.length : Int) _ _ _ _ L[i] L (L.length : Int) (i : Int) m hxb.1 (by omega) (by omega) (by omega) (by omega) (by omega) (by omega) k]
    have e : (if bitOf s L[i] = 1 then ring4 m (2 * pr (pl w L[i]).2 w.length + 1) (2 * pr (pl w L[i]).1 w.length + 1) (2 * (pl w L[i]).2) (2 * (pl w L[i]).1) else ring4 m (2 * (pl w L[i]).1) (2 * (pl w L[i]).2) (2 * pr (pl w L[i]).1 w.length + 1) (2 * pr (pl w L[i]).2 w.length + 1)) = crossM w s m L[i] := by
      unfold crossM
      rw [if_neg hpl]
    rw [e, show ((i : Int) + 1) = ((i + 1 : Nat) : Int) by omega, ih k (i + 1) _ (by omega) (by omega) (by rw [crossM_len]; exact hm), List.drop_eq_getElem_cons hlt]
    rfl
theorem crossM_none {w : List Int} (h : cw w = true) (s : Int) (m : List Int) {x : Int} (hc : ¬ cnt w x > 0) : crossM w s m x = m := by
  have hb := cnt_bd w x
  have hx : x ∉ w := fun hx => by have := cw_two h x hx; omega
  have hi : idx w x < 0 := by
    rcases Int.lt_or_le (idx w x) 0 with h2 | h2
    · exact h2
    · exact absurd ((idx_mem w x).1 h2) hx
  unfold crossM pl
  rw [if_pos hi, if_pos (by decide)]
theorem mapF_fold {w : List Int} (h : cw w = true) (s : Int) : ∀ n i m, mapF w s n i m = (lettersF w n i).foldl (crossM w s) m
  | 0, _, _ => rfl
  | n + 1, i, m => by
    rw [mapF, lettersF, mapF_fold h s n (i + 1)]
    split
    · rfl
    · rename_i hc
      rw [crossM_none h s m hc]
theorem letters_mem {w : List Int} (h : cw w = true) : ∀ x ∈ letters w, x ∈ w := by
  intro x hx
  have h1 := lettersF_pos 9 0 x hx
  have h2 := cw_cnt h x
  refine (cw_mem h x).2 ⟨?_, by omega⟩
  obtain ⟨y, hy, e⟩ := (cnt_ne w x).1 (by omega)
  have := cw_pos h y hy
  omega
theorem impl_map {w : List Int} (h : cw w = true) (s : Int) (k : Nat) (hk : 200 < k) : impl_crossingMap.f k w s = some (mapR w s) := by
  obtain ⟨h1, _⟩ := cw_true h
  have hll : (letters w).length ≤ 9 := lettersF_len w 9 0
  unfold impl_crossingMap.f mapR
  rw [w_id (by omega) (by omega), if_pos (by omega), if_pos (by omega), show (2 * (w.length : Int)).toNat = 2 * w.length by omega, impl_letters h k (by omega), Option.bind_some, mapF_fold h, ← letters_tail h]
  have := impl_map_l0 h s (letters w) (by omega) (letters_mem h) (letters w).length k 0 (List.replicate (2 * w.length) 0) (by omega) (by omega) (by simp)
  rw [List.drop_zero] at this
  exact this
def cmapR (w : List Int) (s : Int) : List Int × Bool := if cw w = true ∧ 0 ≤ s ∧ s ≤ 255 then (mapR w s, true) else ([], false)
theorem cmapR_len (w : List Int) (s : Int) : (cmapR w s).1.length ≤ 24 := by
  unfold cmapR
  split
  · rename_i h
    obtain ⟨h1, _⟩ := cw_true h.1
    rw [mapR_len]
    omega
  · simp
theorem spec_cmap (w : List Int) (hx : w.length ≤ 1048576) (s : Int) (k : Nat) (hk : 1048577 < k) : spec_CrossingMap.f k w s = some (cmapR w s) := by
  unfold spec_CrossingMap.f cmapR
  rw [spec_cw w hx k hk, Option.bind_some, l1In_eq, Option.bind_some]
  by_cases h : cw w = true
  · obtain ⟨h1, _⟩ := cw_true h
    rw [if_pos h]
    by_cases h2 : 0 ≤ s ∧ s ≤ 255
    · rw [if_pos (decide_eq_true h2), if_pos ⟨h, h2⟩, spec_map w s h1 k (by omega)]
      rfl
    · rw [if_neg (by simpa using h2), if_neg (fun h => h2 h.2)]
  · rw [if_neg h, if_neg (fun h' => h h'.1)]
theorem impl_cmap (w : List Int) (hx : w.length ≤ 1048576) (s : Int) (k : Nat) (hk : 1048577 < k) : impl_CrossingMap.f k w s = some (cmapR w s) := by
  unfold impl_CrossingMap.f cmapR
  rw [impl_cw w hx k hk, Option.bind_some, within_eq, Option.bind_some]
  by_cases h : cw w = true
  · rw [if_pos h]
    by_cases h2 : 0 ≤ s ∧ s ≤ 255
    · rw [if_pos (decide_eq_true h2), if_pos ⟨h, h2⟩, impl_map h s k (by omega)]
      rfl
    · rw [if_neg (by simpa using h2), if_neg (fun h => h2 h.2)]
  · rw [if_neg h, if_neg (fun h' => h h'.1)]
end Go.Proofs.Ytfcdomcnkeeffaa.L


namespace Go.Proofs.Ytfcdomcnkeeffaa.L
open Go.RowKit Go.Proofs.Ytfcdomcnkeeffaa.P Go.Proofs.Ytfcdomcnkeeffaa.Help Go.Proofs.YtfcdomcnkeeffaaW.PrintWords
set_option linter.unusedVariables false
set_option linter.unusedSimpArgs false

theorem cnt_drop_le (w : List Int) (x : Int) {a b : Nat} (h : a ≤ b) : cnt (w.drop b) x ≤ cnt (w.drop a) x := by
  have e : w.drop a = (w.drop a).take (b - a) ++ w.drop b := by
    conv => lhs; rw [← List.take_append_drop (b - a) (w.drop a)]
    rw [List.drop_drop, show a + (b - a) = b by omega]
  rw [e, cnt_append]
  have := cnt_bd ((w.drop a).take (b - a)) x
  omega
theorem cnt_drop_at (w : List Int) {x : Int} (hx : 1 ≤ x) {i : Nat} (h : i < w.length) (e : w[i] = x) : cnt (w.drop i) x = 1 + cnt (w.drop (i + 1)) x := by
  rw [List.drop_eq_getElem_cons h, cnt, e, if_pos (by omega)]
theorem cnt_three (w : List Int) {x : Int} (hx : 1 ≤ x) {i j l : Nat} (hi : i < j) (hj : j < l) (hl : l < w.length) (e1 : w[i] = x) (e2 : w[j] = x) (e3 : w[l] = x) : 3 ≤ cnt w x := by
  have a1 := cnt_drop_at w hx (by omega) e1
  have a2 := cnt_drop_at w hx (by omega) e2
  have a3 := cnt_drop_at w hx hl e3
  have b0 := cnt_drop_le w x (Nat.zero_le i)
  have b1 := cnt_drop_le w x (show i + 1 ≤ j by omega)
  have b2 := cnt_drop_le w x (show j + 1 ≤ l by omega)
  have b3 := cnt_bd (w.drop (l + 1)) x
  rw [List.drop_zero] at b0
  omega
/-- Both places of a letter: they are its places. -/
theorem pl_at {w : List Int} (hw : ∀ y ∈ w, 1 ≤ y) (h2 : ∀ y ∈ w, cnt w y = 2) {x : Int} (hx : x ∈ w) :
    ∃ p q : Nat, pl w x = ((p : Int), (q : Int)) ∧ p < q ∧ q < w.length ∧ (∀ i : Nat, (h : i < w.length) → (w[i] = x ↔ i = p ∨ i = q)) := by
  have h0 := (idx_mem w x).2 hx
  have hs := second hw (fun _ => h2 x hx) h0
  have hb := idx_bd w x
  obtain ⟨p, hp⟩ : ∃ p : Nat, idx w x = (p : Int) := ⟨(idx w x).toNat, by omega⟩
  have hpt : (idx w x).toNat = p := by omega
  rw [hpt] at hs
  have hb2 := idx_bd (w.drop (p + 1)) x
  rw [List.length_drop] at hb2
  obtain ⟨r, hr⟩ : ∃ r : Nat, idx (w.drop (p + 1)) x = (r : Int) := ⟨(idx (w.drop (p + 1)) x).toNat, by omega⟩
  have hpl : p < w.length := by omega
  have hq : p + 1 + r < w.length := by omega
  have wp : w[p] = x := by
    have h3 := idx_at w x h0 (by omega)
    have e : w[(idx w x).toNat]'(by omega) = w[p] := by congr 1
    rw [← e]; exact h3
  have hrt : (idx (w.drop (p + 1)) x).toNat = r := by omega
  have wq : w[p + 1 + r] = x := by
    have h3 := idx_at (w.drop (p + 1)) x (by omega) (by rw [List.length_drop]; omega)
    rw [List.getElem_drop] at h3
    have e : w[p + 1 + (idx (w.drop (p + 1)) x).toNat]'(by omega) = w[p + 1 + r] := by congr 1; omega
    rw [← e]; exact h3
  have hx1 := hw x hx
  refine ⟨p, p + 1 + r, ?_, by omega, hq, ?_⟩
  · unfold pl
    rw [hpt, hp, if_neg (by omega), hr, if_neg (by omega)]
    congr 1
  · intro i h
    constructor
    · intro e
      by_cases c1 : i = p
      · exact .inl c1
      · by_cases c2 : i = p + 1 + r
        · exact .inr c2
        · exfalso
          have c := h2 x hx
          rcases Nat.lt_or_gt_of_ne c1 with d | d
          · have := cnt_three w hx1 d (show p < p + 1 + r by omega) hq e wp wq
            omega
          · rcases Nat.lt_or_gt_of_ne c2 with f | f
            · have := cnt_three w hx1 d f hq wp e wq
              omega
            · have := cnt_three w hx1 (show p < p + 1 + r by omega) f h wp wq e
              omega
    · rintro (c | c)
      · subst c; exact wp
      · subst c; exact wq
def prN (p n : Nat) : Nat := if p = 0 then n - 1 else p - 1
theorem prN_eq {p n : Nat} (h : p < n) : pr (p : Int) (n : Int) = (prN p n : Int) := by
  unfold pr prN
  split <;> split <;> omega
theorem prN_bd {p n : Nat} (h : p < n) : prN p n < n := by
  unfold prN
  split <;> omega
theorem prN_inj {p q n : Nat} (h1 : p < n) (h2 : q < n) (h : p ≠ q) : prN p n ≠ prN q n := by
  unfold prN
  split <;> split <;> omega
theorem prN_iff {p i n : Nat} (hp : p < n) (hi : i < n) : (i + 1) % n = p ↔ i = prN p n := by
  unfold prN
  by_cases h : i + 1 = n
  · rw [h, Nat.mod_self]
    split <;> omega
  · rw [Nat.mod_eq_of_lt (by omega)]
    split <;> omega
/-- The letter at a dart. -/
def lam (w : List Int) (d : Nat) : Int := if d % 2 = 0 then w.getD (d / 2) 0 else w.getD ((d / 2 + 1) % w.length) 0
theorem getD_at {w : List Int} {i : Nat} (h : i < w.length) : w.getD i 0 = w[i] := by
  rw [List.getD_eq_getElem?_getD, List.getElem?_eq_getElem h]
  rfl
theorem lam_mem {w : List Int} {d : Nat} (h : d < 2 * w.length) : lam w d ∈ w := by
  unfold lam
  split
  · rw [getD_at (show d / 2 < w.length by omega)]; exact List.getElem_mem _
  · have : (d / 2 + 1) % w.length < w.length := Nat.mod_lt _ (by omega)
    rw [getD_at this]; exact List.getElem_mem _
theorem lam_iff {w : List Int} {x : Int} {p q : Nat} (hp : p < w.length) (hq : q < w.length) (hpq : ∀ i : Nat, (h : i < w.length) → (w[i] = x ↔ i = p ∨ i = q)) {d : Nat} (h : d < 2 * w.length) :
    lam w d = x ↔ d = 2 * p ∨ d = 2 * q ∨ d = 2 * prN p w.length + 1 ∨ d = 2 * prN q w.length + 1 := by
  unfold lam
  split
  · rename_i he
    have hd : d / 2 < w.length := by omega
    rw [getD_at hd, hpq _ hd]
    constructor
    · rintro (c | c)
      · left; omega
      · right; left; omega
    · rintro (c | c | c | c)
      · left; omega
      · right; omega
      · omega
      · omega
  · rename_i he
    have hd : d / 2 < w.length := by omega
    have hm : (d / 2 + 1) % w.length < w.length := Nat.mod_lt _ (by omega)
    rw [getD_at hm, hpq _ hm, prN_iff hp hd, prN_iff hq hd]
    constructor
    · rintro (c | c)
      · right; right; left; omega
      · right; right; right; omega
    · rintro (c | c | c | c)
      · omega
      · omega
      · left; omega
      · right; omega
/-- What follows in a ring of four. -/
def nxr (b : Bool) (r0 r1 r2 r3 d : Nat) : Nat :=
  if b = true then (if d = r3 then r2 else if d = r2 then r1 else if d = r1 then r0 else r3)
  else (if d = r0 then r1 else if d = r1 then r2 else if d = r2 then r3 else r0)
theorem gs (l : List Int) (i j : Nat) (v : Int) (h : i < l.length) : (l.set i v).getD j 0 = if j = i then v else l.getD j 0 := by
  rw [List.getD_eq_getElem?_getD, List.getD_eq_getElem?_getD]
  by_cases e : j = i
  · subst e
    rw [List.getElem?_set_self h, if_pos rfl]
    rfl
  · rw [List.getElem?_set_ne (fun c => e c.symm), if_neg e]
theorem ring_at (m : List Int) (a b c d : Nat) (ha : a < m.length) (hb : b < m.length) (hc : c < m.length) (hd : d < m.length) (i : Nat) :
    (ring4 m (a : Int) (b : Int) (c : Int) (d : Int)).getD i 0 = if i = d then (a : Int) else if i = c then (d : Int) else if i = b then (c : Int) else if i = a then (b : Int) else m.getD i 0 := by
  unfold ring4
  simp only [Int.toNat_natCast]
  rw [gs _ _ _ _ (by simp; exact hd), gs _ _ _ _ (by simp; exact hc), gs _ _ _ _ (by simp; exact hb), gs _ _ _ _ ha]
/-- The dart behind a dart. -/
def nx (w : List Int) (s : Int) (d : Nat) : Nat :=
  nxr (decide (bitOf s (lam w d) = 1)) (2 * (pl w (lam w d)).1.toNat) (2 * (pl w (lam w d)).2.toNat) (2 * prN (pl w (lam w d)).1.toNat w.length + 1) (2 * prN (pl w (lam w d)).2.toNat w.length + 1) d
theorem cross_at {w : List Int} (hw : ∀ y ∈ w, 1 ≤ y) (h2 : ∀ y ∈ w, cnt w y = 2) (s : Int) (m : List Int) (hm : m.length = 2 * w.length) {x : Int} (hx : x ∈ w) {d : Nat} (hd : d < 2 * w.length) :
    (crossM w s m x).getD d 0 = if lam w d = x then (nx w s d : Int) else m.getD d 0 := by
  obtain ⟨p, q, e, pq, ql, hpq⟩ := pl_at hw h2 hx
  have hp : p < w.length := by omega
  have b1 := prN_bd hp
  have b2 := prN_bd ql
  have b3 := prN_inj hp ql (by omega)
  have li := lam_iff hp ql hpq hd
  unfold crossM
  rw [e]
  dsimp only
  rw [if_neg (by omega), prN_eq hp, prN_eq ql, show (2 * (p : Int)) = ((2 * p : Nat) : Int) by omega, show (2 * (q : Int)) = ((2 * q : Nat) : Int) by omega, show (2 * (prN p w.length : Int) + 1) = ((2 * prN p w.length + 1 : Nat) : Int) by omega, show (2 * (prN q w.length : Int) + 1) = ((2 * prN q w.length + 1 : Nat) : Int) by omega]
  by_cases hl : lam w d = x
  · rw [if_pos hl]
    unfold nx
    rw [hl, e]
    dsimp only
    simp only [Int.toNat_natCast]
    have li' := li.1 hl
    by_cases hb : bitOf s x = 1
    · rw [if_pos hb, ring_at _ _ _ _ _ (by omega) (by omega) (by omega) (by omega)]
      simp only [nxr, hb, decide_true, if_true]
      generalize prN p w.length = u at *
      generalize prN q w.length = v at *
      repeat' split
      all_goals first | rfl | omega
    · rw [if_neg hb, ring_at _ _ _ _ _ (by omega) (by omega) (by omega) (by omega)]
      simp only [nxr, hb, decide_false, Bool.false_eq_true, if_false]
      generalize prN p w.length = u at *
      generalize prN q w.length = v at *
      repeat' split
      all_goals first | rfl | omega
  · rw [if_neg hl]
    have nl : ¬ (d = 2 * p ∨ d = 2 * q ∨ d = 2 * prN p w.length + 1 ∨ d = 2 * prN q w.length + 1) := fun c => hl (li.2 c)
    by_cases hb : bitOf s x = 1
    · rw [if_pos hb, ring_at _ _ _ _ _ (by omega) (by omega) (by omega) (by omega), if_neg (by omega), if_neg (by omega), if_neg (by omega), if_neg (by omega)]
    · rw [if_neg hb, ring_at _ _ _ _ _ (by omega) (by omega) (by omega) (by omega), if_neg (by omega), if_neg (by omega), if_neg (by omega), if_neg (by omega)]
theorem fold_at {w : List Int} (hw : ∀ y ∈ w, 1 ≤ y) (h2 : ∀ y ∈ w, cnt w y = 2) (s : Int) {d : Nat} (hd : d < 2 * w.length) : ∀ (L : List Int) (m : List Int), m.length = 2 * w.length → (∀ x ∈ L, x ∈ w) → L.Nodup →
    (L.foldl (crossM w s) m).getD d 0 = if lam w d ∈ L then (nx w s d : Int) else m.getD d 0
  | [], m, _, _, _ => by simp
  | x :: L, m, hm, hL, hn => by
    have hn' := List.nodup_cons.1 hn
    rw [List.foldl_cons, fold_at hw h2 s hd L _ (by rw [crossM_len]; exact hm) (fun y hy => hL y (List.mem_cons_of_mem _ hy)) hn'.2, cross_at hw h2 s m hm (hL x List.mem_cons_self) hd]
    by_cases c : lam w d ∈ L
    · rw [if_pos c, if_pos (List.mem_cons_of_mem _ c)]
    · rw [if_neg c]
      by_cases c2 : lam w d = x
      · rw [if_pos c2, if_pos (by rw [c2]; exact List.mem_cons_self)]
      · rw [if_neg c2, if_neg (fun c3 => by rcases List.mem_cons.1 c3 with c4 | c4; exact c2 c4; exact c c4)]
theorem lettersF_nodup (w : List Int) : ∀ n i, (lettersF w n i).Nodup
  | 0, _ => by simp [lettersF]
  | n + 1, i => by
    rw [lettersF]
    split
    · refine List.nodup_cons.2 ⟨fun h => ?_, lettersF_nodup w n (i + 1)⟩
      have := lettersF_pos n (i + 1) _ h
      omega
    · exact lettersF_nodup w n (i + 1)
theorem lettersF_has {w : List Int} {x : Int} (hc : cnt w x > 0) : ∀ n i : Nat, (i : Int) ≤ x → x < (i + n : Nat) → x ∈ lettersF w n i
  | 0, i, h1, h2 => by omega
  | n + 1, i, h1, h2 => by
    rw [lettersF]
    by_cases e : x = (i : Int)
    · subst e
      rw [if_pos hc]
      exact List.mem_cons_self
    · have ih := lettersF_has hc n (i + 1) (by omega) (by omega)
      split
      · exact List.mem_cons_of_mem _ ih
      · exact ih
theorem letters_iff {w : List Int} (h : cw w = true) {x : Int} (hx : x ∈ w) : x ∈ letters w := by
  have h1 := (cw_true h).2 x hx
  exact lettersF_has (by omega) 9 0 (by omega) (by omega)
/-- The map, dart by dart. -/
theorem mapR_at {w : List Int} (h : cw w = true) (s : Int) {d : Nat} (hd : d < 2 * w.length) : (mapR w s).getD d 0 = (nx w s d : Int) := by
  have hm := lam_mem hd
  unfold mapR
  rw [mapF_fold h, ← letters_tail h, fold_at (cw_pos h) (cw_two h) s hd _ _ (by simp) (letters_mem h) (lettersF_nodup w 9 0), if_pos (letters_iff h hm)]
theorem nxr_in {b : Bool} {r0 r1 r2 r3 d : Nat} : nxr b r0 r1 r2 r3 d = r0 ∨ nxr b r0 r1 r2 r3 d = r1 ∨ nxr b r0 r1 r2 r3 d = r2 ∨ nxr b r0 r1 r2 r3 d = r3 := by
  unfold nxr
  repeat' split
  all_goals simp
theorem nxr_inj {b : Bool} {r0 r1 r2 r3 d e : Nat} (h01 : r0 ≠ r1) (h02 : r0 ≠ r2) (h03 : r0 ≠ r3) (h12 : r1 ≠ r2) (h13 : r1 ≠ r3) (h23 : r2 ≠ r3) (hd : d = r0 ∨ d = r1 ∨ d = r2 ∨ d = r3) (he : e = r0 ∨ e = r1 ∨ e = r2 ∨ e = r3) (h : nxr b r0 r1 r2 r3 d = nxr b r0 r1 r2 r3 e) : d = e := by
  unfold nxr at h
  repeat' split at h
  all_goals omega
theorem nx_ring {w : List Int} (h : cw w = true) {d : Nat} (hd : d < 2 * w.length) : ∃ p q : Nat, pl w (lam w d) = ((p : Int), (q : Int)) ∧ p < q ∧ q < w.length ∧ prN p w.length < w.length ∧ prN q w.length < w.length ∧ prN p w.length ≠ prN q w.length ∧
    (∀ s, nx w s d = nxr (decide (bitOf s (lam w d) = 1)) (2 * p) (2 * q) (2 * prN p w.length + 1) (2 * prN q w.length + 1) d) ∧ (∀ e, e < 2 * w.length → (lam w e = lam w d ↔ e = 2 * p ∨ e = 2 * q ∨ e = 2 * prN p w.length + 1 ∨ e = 2 * prN q w.length + 1)) := by
  obtain ⟨p, q, e, pq, ql, hpq⟩ := pl_at (cw_pos h) (cw_two h) (lam_mem hd)
  have hp : p < w.length := by omega
  refine ⟨p, q, e, pq, ql, prN_bd hp, prN_bd ql, prN_inj hp ql (by omega), fun s => ?_, fun f hf => lam_iff hp ql hpq hf⟩
  unfold nx
  rw [e]
  simp only [Int.toNat_natCast]
theorem nx_bd {w : List Int} (h : cw w = true) (s : Int) {d : Nat} (hd : d < 2 * w.length) : nx w s d < 2 * w.length ∧ lam w (nx w s d) = lam w d := by
  obtain ⟨p, q, e, pq, ql, b1, b2, b3, en, hl⟩ := nx_ring h hd
  have hin := @nxr_in (decide (bitOf s (lam w d) = 1)) (2 * p) (2 * q) (2 * prN p w.length + 1) (2 * prN q w.length + 1) d
  rw [← en s] at hin
  have hb : nx w s d < 2 * w.length := by omega
  exact ⟨hb, (hl _ hb).2 hin⟩
theorem nx_inj {w : List Int} (h : cw w = true) (s : Int) {d e : Nat} (hd : d < 2 * w.length) (he : e < 2 * w.length) (hn : nx w s d = nx w s e) : d = e := by
  have l1 := (nx_bd h s hd).2
  have l2 := (nx_bd h s he).2
  have le : lam w e = lam w d := by rw [← l2, ← hn, l1]
  obtain ⟨p, q, ep, pq, ql, b1, b2, b3, en, hl⟩ := nx_ring h hd
  obtain ⟨p', q', ep', _, _, _, _, _, en', _⟩ := nx_ring h he
  rw [le, ep] at ep'
  obtain ⟨e1, e2⟩ := Prod.mk.injEq .. ▸ ep'
  have e1' : p' = p := by omega
  have e2' : q' = q := by omega
  have en2 := en' s
  rw [le, e1', e2', ← hn, en s] at en2
  exact nxr_inj (by omega) (by omega) (by omega) (by omega) (by omega) (by omega) ((hl d hd).1 rfl) ((hl e he).1 le) en2
end Go.Proofs.Ytfcdomcnkeeffaa.L

namespace Go.Proofs.Ytfcdomcnkeeffaa.UF
set_option linter.unusedVariables false

/-- The number that a number points to. -/
def P (up : List Int) (i : Int) : Int := up.getD i.toNat 0
/-- The way from i ends at r. -/
inductive Root (up : List Int) : Int → Int → Prop
  | here {r : Int} (h : P up r = r) : Root up r r
  | step {i r : Int} (h : P up i ≠ i) (k : Root up (P up i) r) : Root up i r
theorem Root.root {up : List Int} {i r : Int} (h : Root up i r) : P up r = r := by
  induction h with
  | here h => exact h
  | step _ _ ih => exact ih
theorem Root.uniq {up : List Int} {i r : Int} (h : Root up i r) : ∀ {s : Int}, Root up i s → r = s := by
  induction h with
  | here h =>
    intro s hs
    cases hs with
    | here _ => rfl
    | step h2 _ => exact absurd h h2
  | step h k ih =>
    intro s hs
    cases hs with
    | here h2 => exact absurd h2 h
    | step _ k2 => exact ih k2
/-- A forest: every number points to a number, every way ends. -/
def Ok (up : List Int) : Prop := ∀ i : Int, 0 ≤ i → i < up.length → (0 ≤ P up i ∧ P up i < up.length) ∧ ∃ r, Root up i r
theorem Ok.bd {up : List Int} (h : Ok up) {i r : Int} (hr : Root up i r) : 0 ≤ i → i < up.length → 0 ≤ r ∧ r < up.length := by
  induction hr with
  | here _ => exact fun h0 h1 => ⟨h0, h1⟩
  | step _ _ ih => exact fun h0 h1 => ih (h _ h0 h1).1.1 (h _ h0 h1).1.2
theorem P_set {up : List Int} {a b i : Int} (ha : 0 ≤ a) (ha1 : a < up.length) (hi : 0 ≤ i) : P (up.set a.toNat b) i = if i = a then b else P up i := by
  unfold P
  by_cases h : i = a
  · subst h
    rw [if_pos rfl, List.getD_eq_getElem?_getD, List.getElem?_set_self (by omega)]
    rfl
  · rw [if_neg h, List.getD_eq_getElem?_getD, List.getD_eq_getElem?_getD, List.getElem?_set_ne (by omega)]
theorem set_other {up : List Int} (hok : Ok up) {ra rb : Int} (ha : 0 ≤ ra ∧ ra < up.length) (hra : P up ra = ra) {i r : Int} (h : Root up i r) : 0 ≤ i → i < up.length → r ≠ ra → Root (up.set ra.toNat rb) i r := by
  induction h with
  | here h =>
    intro h0 h1 hne
    exact .here (by rw [P_set ha.1 ha.2 h0, if_neg hne]; exact h)
  | @step i r h k ih =>
    intro h0 h1 hne
    have hi : i ≠ ra := fun e => h (by rw [e]; exact hra)
    have hp : P (up.set ra.toNat rb) i = P up i := by rw [P_set ha.1 ha.2 h0, if_neg hi]
    exact .step (by rw [hp]; exact h) (by rw [hp]; exact ih (hok i h0 h1).1.1 (hok i h0 h1).1.2 hne)
theorem set_same {up : List Int} (hok : Ok up) {ra rb : Int} (ha : 0 ≤ ra ∧ ra < up.length) (hb : 0 ≤ rb ∧ rb < up.length) (hra : P up ra = ra) (hrb : P up rb = rb) {i r : Int} (h : Root up i r) : 0 ≤ i → i < up.length → r = ra → Root (up.set ra.toNat rb) i rb := by
  induction h with
  | @here r h =>
    intro h0 h1 e
    subst e
    by_cases hab : r = rb
    · subst hab
      exact .here (by rw [P_set ha.1 ha.2 h0, if_pos rfl])
    · have hp : P (up.set r.toNat rb) r = rb := by rw [P_set ha.1 ha.2 h0, if_pos rfl]
      refine .step (by rw [hp]; exact fun e => hab e.symm) ?_
      rw [hp]
      exact set_other hok ha hra (.here hrb) hb.1 hb.2 (fun e => hab e.symm)
  | @step i r h k ih =>
    intro h0 h1 e
    have hi : i ≠ ra := fun e => h (by rw [e]; exact hra)
    have hp : P (up.set ra.toNat rb) i = P up i := by rw [P_set ha.1 ha.2 h0, if_neg hi]
    exact .step (by rw [hp]; exact h) (by rw [hp]; exact ih (hok i h0 h1).1.1 (hok i h0 h1).1.2 e)
theorem Ok.set {up : List Int} (hok : Ok up) {ra rb : Int} (ha : 0 ≤ ra ∧ ra < up.length) (hb : 0 ≤ rb ∧ rb < up.length) (hra : P up ra = ra) (hrb : P up rb = rb) : Ok (up.set ra.toNat rb) := by
  intro i h0 h1
  rw [List.length_set] at h1
  refine ⟨?_, ?_⟩
  · rw [P_set ha.1 ha.2 h0, List.length_set]
    split
    · exact hb
    · exact (hok i h0 h1).1
  · obtain ⟨r, hr⟩ := (hok i h0 h1).2
    by_cases e : r = ra
    · exact ⟨rb, set_same hok ha hb hra hrb hr h0 h1 e⟩
    · exact ⟨r, set_other hok ha hra hr h0 h1 e⟩
/-- Two numbers of one class. -/
def Same (up : List Int) (i j : Int) : Prop := ∃ r, Root up i r ∧ Root up j r
/-- Being of one class, as pairs make it, among the numbers below n. -/
inductive Cls (n : Int) (ps : List (Int × Int)) : Int → Int → Prop
  | refl {i : Int} (h0 : 0 ≤ i) (h1 : i < n) : Cls n ps i i
  | pair {i j : Int} (h : (i, j) ∈ ps) (h0 : 0 ≤ i) (h1 : i < n) (h2 : 0 ≤ j) (h3 : j < n) : Cls n ps i j
  | symm {i j : Int} (h : Cls n ps i j) : Cls n ps j i
  | trans {i j k : Int} (h : Cls n ps i j) (h2 : Cls n ps j k) : Cls n ps i k
theorem Cls.bd {n : Int} {ps : List (Int × Int)} {i j : Int} (h : Cls n ps i j) : (0 ≤ i ∧ i < n) ∧ (0 ≤ j ∧ j < n) := by
  induction h with
  | refl h0 h1 => exact ⟨⟨h0, h1⟩, h0, h1⟩
  | pair _ h0 h1 h2 h3 => exact ⟨⟨h0, h1⟩, h2, h3⟩
  | symm _ ih => exact ⟨ih.2, ih.1⟩
  | trans _ _ ih1 ih2 => exact ⟨ih1.1, ih2.2⟩
theorem Cls.mono {n : Int} {ps qs : List (Int × Int)} (hs : ∀ p, p ∈ ps → p ∈ qs) {i j : Int} (h : Cls n ps i j) : Cls n qs i j := by
  induction h with
  | refl h0 h1 => exact .refl h0 h1
  | pair h h0 h1 h2 h3 => exact .pair (hs _ h) h0 h1 h2 h3
  | symm _ ih => exact .symm ih
  | trans _ _ ih1 ih2 => exact .trans ih1 ih2
/-- The forest that stands for pairs. -/
structure Stands (up : List Int) (n : Int) (ps : List (Int × Int)) : Prop where
  ok : Ok up
  len : (up.length : Int) = n
  cls : ∀ i j, Cls n ps i j ↔ (0 ≤ i ∧ i < n) ∧ (0 ≤ j ∧ j < n) ∧ Same up i j
theorem Stands.join {up : List Int} {n : Int} {ps : List (Int × Int)} (h : Stands up n ps) {a b ra rb : Int} (ha : 0 ≤ a ∧ a < n) (hb : 0 ≤ b ∧ b < n) (hra : Root up a ra) (hrb : Root up b rb) :
    Stands (up.set ra.toNat rb) n (ps ++ [(a, b)]) ∧ Stands (up.set rb.toNat ra) n (ps ++ [(a, b)]) := by
  have hl := h.len
  have gen : ∀ (x y rx ry : Int), 0 ≤ x ∧ x < n → 0 ≤ y ∧ y < n → Root up x rx → Root up y ry → (∀ i j, Cls n (ps ++ [(a, b)]) i j ↔ Cls n (ps ++ [(x, y)]) i j) → Stands (up.set rx.toNat ry) n (ps ++ [(a, b)]) := by
    intro x y rx ry hx hy hrx hry heq
    have bx := h.ok.bd hrx hx.1 (by omega)
    have by' := h.ok.bd hry hy.1 (by omega)
    have hok := h.ok.set bx by' hrx.root hry.root
    refine ⟨hok, by rw [List.length_set]; exact hl, fun i j => ?_⟩
    rw [heq]
    constructor
    · intro hc
      refine ⟨hc.bd.1, hc.bd.2, ?_⟩
      induction hc with
      | @refl i h0 h1 =>
        obtain ⟨r, hr⟩ := (hok i h0 (by rw [List.length_set]; omega)).2
        exact ⟨r, hr, hr⟩
      | @pair i j hp h0 h1 h2 h3 =>
        rcases List.mem_append.1 hp with hp | hp
        · obtain ⟨r, r1, r2⟩ := ((h.cls i j).1 (.pair hp h0 h1 h2 h3)).2.2
          by_cases e : r = rx
          · exact ⟨ry, set_same h.ok bx by' hrx.root hry.root r1 h0 (by omega) e, set_same h.ok bx by' hrx.root hry.root r2 h2 (by omega) e⟩
          · exact ⟨r, set_other h.ok bx hrx.root r1 h0 (by omega) e, set_other h.ok bx hrx.root r2 h2 (by omega) e⟩
        · have : (i, j) = (x, y) := by simpa using hp
          obtain ⟨rfl, rfl⟩ := Prod.mk.inj this
          refine ⟨ry, set_same h.ok bx by' hrx.root hry.root hrx h0 (by omega) rfl, ?_⟩
          by_cases e : ry = rx
          · exact set_same h.ok bx by' hrx.root hry.root hry h2 (by omega) e
          · exact set_other h.ok bx hrx.root hry h2 (by omega) e
      | symm _ ih => obtain ⟨r, r1, r2⟩ := ih; exact ⟨r, r2, r1⟩
      | trans _ _ ih1 ih2 =>
        obtain ⟨r, r1, r2⟩ := ih1
        obtain ⟨s, s1, s2⟩ := ih2
        obtain rfl := r2.uniq s1
        exact ⟨r, r1, s2⟩
    · rintro ⟨hi, hj, s, s1, s2⟩
      have old : ∀ i, 0 ≤ i ∧ i < n → Root (up.set rx.toNat ry) i s → ∃ r, Root up i r ∧ (r = rx ∧ s = ry ∨ r ≠ rx ∧ s = r) := by
        intro i hi hs
        obtain ⟨r, hr⟩ := (h.ok i hi.1 (by omega)).2
        refine ⟨r, hr, ?_⟩
        by_cases e : r = rx
        · exact .inl ⟨e, hs.uniq (set_same h.ok bx by' hrx.root hry.root hr hi.1 (by omega) e)⟩
        · exact .inr ⟨e, hs.uniq (set_other h.ok bx hrx.root hr hi.1 (by omega) e)⟩
      have up' : ∀ {i j}, Cls n ps i j → Cls n (ps ++ [(x, y)]) i j := fun hc => hc.mono (fun p hp => List.mem_append_left _ hp)
      have hxy : Cls n (ps ++ [(x, y)]) x y := .pair (by simp) hx.1 hx.2 hy.1 hy.2
      obtain ⟨r1, q1, c1⟩ := old i hi s1
      obtain ⟨r2, q2, c2⟩ := old j hj s2
      have same : ∀ {u v r}, 0 ≤ u ∧ u < n → 0 ≤ v ∧ v < n → Root up u r → Root up v r → Cls n (ps ++ [(x, y)]) u v := fun hu hv a1 a2 => up' ((h.cls _ _).2 ⟨hu, hv, _, a1, a2⟩)
      rcases c1 with ⟨e1, f1⟩ | ⟨e1, f1⟩
      · subst e1
        rcases c2 with ⟨e2, f2⟩ | ⟨e2, f2⟩
        · subst e2
          exact same hi hj q1 q2
        · have : r2 = ry := by rw [← f2]; exact f1
          subst this
          exact (same hi hx q1 hrx).trans (hxy.trans (same hy hj hry q2))
      · rcases c2 with ⟨e2, f2⟩ | ⟨e2, f2⟩
        · subst e2
          have : r1 = ry := by rw [← f1]; exact f2
          subst this
          exact (same hi hy q1 hry).trans (hxy.symm.trans (same hx hj hrx q2))
        · have : r1 = r2 := by rw [← f1]; exact f2
          subst this
          exact same hi hj q1 q2
  refine ⟨gen a b ra rb ha hb hra hrb (fun _ _ => Iff.rfl), gen b a rb ra hb ha hrb hra (fun i j => ?_)⟩
  have swap : ∀ {u v : Int} {i j : Int}, Cls n (ps ++ [(u, v)]) i j → Cls n (ps ++ [(v, u)]) i j := by
    intro u v i j hc
    induction hc with
    | refl h0 h1 => exact .refl h0 h1
    | @pair i j hp h0 h1 h2 h3 =>
      rcases List.mem_append.1 hp with hp | hp
      · exact .pair (List.mem_append_left _ hp) h0 h1 h2 h3
      · have : (i, j) = (u, v) := by simpa using hp
        obtain ⟨rfl, rfl⟩ := Prod.mk.inj this
        exact .symm (.pair (by simp) h2 h3 h0 h1)
    | symm _ ih => exact .symm ih
    | trans _ _ ih1 ih2 => exact .trans ih1 ih2
  exact ⟨swap, swap⟩
/-- The numbers from 0 on, each for itself. -/
def alone (n : Nat) : List Int := (List.range n).map fun (i : Nat) => (i : Int)
theorem alone_P (n : Nat) (i : Int) (h0 : 0 ≤ i) (h1 : i < n) : P (alone n) i = i := by
  unfold P alone
  rw [List.getD_eq_getElem?_getD, List.getElem?_map, List.getElem?_range (by omega)]
  simp
  omega
theorem alone_stands (n : Nat) : Stands (alone n) n [] := by
  have hlen : (alone n).length = n := by simp [alone]
  have hok : Ok (alone n) := by
    intro i h0 h1
    rw [hlen] at h1 ⊢
    have := alone_P n i h0 h1
    exact ⟨by omega, i, .here this⟩
  refine ⟨hok, by rw [hlen], fun i j => ?_⟩
  constructor
  · intro hc
    refine ⟨hc.bd.1, hc.bd.2, ?_⟩
    have : i = j := by
      induction hc with
      | refl _ _ => rfl
      | pair h _ _ _ _ => cases h
      | symm _ ih => exact ih.symm
      | trans _ _ ih1 ih2 => exact ih1.trans ih2
    subst this
    exact ⟨i, .here (alone_P n i hc.bd.1.1 hc.bd.1.2), .here (alone_P n i hc.bd.1.1 hc.bd.1.2)⟩
  · rintro ⟨hi, hj, r, r1, r2⟩
    have e1 := r1.uniq (.here (alone_P n i hi.1 hi.2))
    have e2 := r2.uniq (.here (alone_P n j hj.1 hj.2))
    have : i = j := by rw [← e1, ← e2]
    subst this
    exact .refl hi.1 hi.2
end Go.Proofs.Ytfcdomcnkeeffaa.UF

namespace Go.Proofs.Ytfcdomcnkeeffaa.UF
set_option linter.unusedVariables false
/-- The numbers below n that point to themselves. -/
def roots (up : List Int) : List Nat := (List.range up.length).filter fun k => decide (P up (k : Int) = (k : Int))
theorem roots_nodup (up : List Int) : (roots up).Nodup := List.Pairwise.filter _ List.nodup_range
theorem mem_roots {up : List Int} {k : Nat} : k ∈ roots up ↔ k < up.length ∧ P up (k : Int) = (k : Int) := by
  unfold roots
  rw [List.mem_filter, List.mem_range]
  simp
/-- The root of a number's class. -/
noncomputable def rt (up : List Int) (i : Int) : Int := by
  classical
  exact if h : ∃ r, Root up i r then h.choose else i
theorem rt_of {up : List Int} {i r : Int} (h : Root up i r) : rt up i = r := by
  have hx : ∃ r, Root up i r := ⟨r, h⟩
  unfold rt
  rw [dif_pos hx]
  exact hx.choose_spec.uniq h
theorem Ok.rt {up : List Int} (h : Ok up) {i : Int} (h0 : 0 ≤ i) (h1 : i < up.length) : Root up i (UF.rt up i) := by
  obtain ⟨r, hr⟩ := (h i h0 h1).2
  rw [rt_of hr]
  exact hr
theorem Ok.rt_mem {up : List Int} (h : Ok up) {i : Int} (h0 : 0 ≤ i) (h1 : i < up.length) : (UF.rt up i).toNat ∈ roots up ∧ ((UF.rt up i).toNat : Int) = UF.rt up i := by
  have hr := h.rt h0 h1
  have hb := h.bd hr h0 h1
  have e : ((UF.rt up i).toNat : Int) = UF.rt up i := by omega
  exact ⟨mem_roots.2 ⟨by omega, by rw [e]; exact hr.root⟩, e⟩
theorem map_nodup {α β : Type} (f : α → β) : ∀ {l : List α}, l.Nodup → (∀ a b, a ∈ l → b ∈ l → f a = f b → a = b) → (l.map f).Nodup
  | [], _, _ => List.nodup_nil
  | x :: t, h, hf => by
    have h' := List.nodup_cons.1 h
    rw [List.map_cons, List.nodup_cons]
    refine ⟨fun hc => ?_, map_nodup f h'.2 (fun a b ha hb => hf a b (List.mem_cons_of_mem _ ha) (List.mem_cons_of_mem _ hb))⟩
    obtain ⟨y, hy, e⟩ := List.mem_map.1 hc
    have := hf y x (List.mem_cons_of_mem _ hy) List.mem_cons_self e
    subst this
    exact h'.1 hy
/-- Where a map of numbers parts classes, the second forest has at least as many roots. -/
theorem roots_map {u1 u2 : List Int} {n1 n2 : Int} {p1 p2 : List (Int × Int)} (h1 : Stands u1 n1 p1) (h2 : Stands u2 n2 p2) (f : Int → Int) (hf : ∀ i, 0 ≤ i → i < n1 → 0 ≤ f i ∧ f i < n2)
    (hc : ∀ i j, 0 ≤ i → i < n1 → 0 ≤ j → j < n1 → Cls n2 p2 (f i) (f j) → Cls n1 p1 i j) :
    ((roots u1).map fun (r : Nat) => (rt u2 (f (r : Int))).toNat).Nodup ∧ ∀ x, x ∈ (roots u1).map (fun (r : Nat) => (rt u2 (f (r : Int))).toNat) → x ∈ roots u2 := by
  have l1 := h1.len
  have l2 := h2.len
  have bd : ∀ a, a ∈ roots u1 → 0 ≤ (a : Int) ∧ (a : Int) < n1 := by
    intro a ha
    have := (mem_roots.1 ha).1
    omega
  refine ⟨map_nodup _ (roots_nodup u1) ?_, ?_⟩
  · intro a b ha hb e
    have ba := bd a ha
    have bb := bd b hb
    have fa := hf a ba.1 ba.2
    have fb := hf b bb.1 bb.2
    have ra := h2.ok.rt fa.1 (by omega)
    have rb := h2.ok.rt fb.1 (by omega)
    have ea := (h2.ok.rt_mem fa.1 (by omega)).2
    have eb := (h2.ok.rt_mem fb.1 (by omega)).2
    have e' : rt u2 (f (a : Int)) = rt u2 (f (b : Int)) := by
      rw [← ea, ← eb]
      exact congrArg _ e
    have c2 : Cls n2 p2 (f a) (f b) := (h2.cls _ _).2 ⟨fa, fb, _, ra, by rw [e']; exact rb⟩
    obtain ⟨_, _, s, s1, s2⟩ := (h1.cls _ _).1 (hc a b ba.1 ba.2 bb.1 bb.2 c2)
    have q1 := s1.uniq (.here (mem_roots.1 ha).2)
    have q2 := s2.uniq (.here (mem_roots.1 hb).2)
    omega
  · intro x hx
    obtain ⟨a, ha, rfl⟩ := List.mem_map.1 hx
    have ba := bd a ha
    have fa := hf a ba.1 ba.2
    exact (h2.ok.rt_mem fa.1 (by omega)).1
theorem roots_le {u1 u2 : List Int} {n1 n2 : Int} {p1 p2 : List (Int × Int)} (h1 : Stands u1 n1 p1) (h2 : Stands u2 n2 p2) (f : Int → Int) (hf : ∀ i, 0 ≤ i → i < n1 → 0 ≤ f i ∧ f i < n2)
    (hc : ∀ i j, 0 ≤ i → i < n1 → 0 ≤ j → j < n1 → Cls n2 p2 (f i) (f j) → Cls n1 p1 i j) : (roots u1).length ≤ (roots u2).length := by
  have h := roots_map h1 h2 f hf hc
  have := List.Nodup.length_le_of_subset h.1 h.2
  rwa [List.length_map] at this
theorem roots_perm {u1 u2 : List Int} {n : Int} {p1 p2 : List (Int × Int)} (h1 : Stands u1 n p1) (h2 : Stands u2 n p2) (hc : ∀ i j, Cls n p1 i j ↔ Cls n p2 i j) :
    List.Perm ((roots u1).map fun (r : Nat) => (rt u2 (r : Int)).toNat) (roots u2) := by
  have h := roots_map h1 h2 (fun i => i) (fun i a b => ⟨a, b⟩) (fun i j _ _ _ _ c => (hc i j).2 c)
  have l1 := h1.len
  have l2 := h2.len
  refine (List.perm_ext_iff_of_nodup h.1 (roots_nodup u2)).2 fun x => ⟨h.2 x, fun hx => ?_⟩
  have hb := (mem_roots.1 hx).1
  have m1 := h1.ok.rt_mem (i := (x : Int)) (by omega) (by omega)
  have r1 := h1.ok.rt (i := (x : Int)) (by omega) (by omega)
  have b1 := h1.ok.bd r1 (by omega) (by omega)
  refine List.mem_map.2 ⟨_, m1.1, ?_⟩
  rw [m1.2]
  have c1 : Cls n p1 (x : Int) (rt u1 (x : Int)) := (h1.cls _ _).2 ⟨by omega, by omega, _, r1, .here r1.root⟩
  obtain ⟨_, _, s, s1, s2⟩ := (h2.cls _ _).1 ((hc _ _).1 c1)
  have q1 := s1.uniq (.here (mem_roots.1 hx).2)
  rw [rt_of s2]
  omega
/-- How many numbers have this root. -/
noncomputable def csize (up : List Int) (r : Int) : Nat := ((List.range up.length).filter fun (k : Nat) => decide (rt up (k : Int) = r)).length
theorem csize_eq {u1 u2 : List Int} {n : Int} {p1 p2 : List (Int × Int)} (h1 : Stands u1 n p1) (h2 : Stands u2 n p2) (hc : ∀ i j, Cls n p1 i j ↔ Cls n p2 i j) {r : Nat} (hr : r ∈ roots u1) :
    csize u2 (rt u2 (r : Int)) = csize u1 (r : Int) := by
  have l1 := h1.len
  have l2 := h2.len
  have hb := mem_roots.1 hr
  unfold csize
  have el : u2.length = u1.length := by omega
  rw [el]
  congr 1
  apply List.filter_congr
  intro k hk
  have hk' := List.mem_range.1 hk
  have rk1 := h1.ok.rt (i := (k : Int)) (by omega) (by omega)
  have rk2 := h2.ok.rt (i := (k : Int)) (by omega) (by omega)
  have rr2 := h2.ok.rt (i := (r : Int)) (by omega) (by omega)
  apply decide_eq_decide.2
  constructor
  · intro e
    have c2 : Cls n p2 (k : Int) (r : Int) := (h2.cls _ _).2 ⟨by omega, by omega, _, by rw [← e]; exact rk2, rr2⟩
    obtain ⟨_, _, s, s1, s2⟩ := (h1.cls _ _).1 ((hc _ _).2 c2)
    rw [rt_of s1]
    exact (s2.uniq (.here hb.2))
  · intro e
    have c1 : Cls n p1 (k : Int) (r : Int) := (h1.cls _ _).2 ⟨by omega, by omega, _, rk1, by rw [e]; exact .here hb.2⟩
    obtain ⟨_, _, s, s1, s2⟩ := (h2.cls _ _).1 ((hc _ _).1 c1)
    rw [rt_of s1, rt_of s2]
/-- The sizes of the classes are the same, but for their order. -/
theorem sizes_perm {u1 u2 : List Int} {n : Int} {p1 p2 : List (Int × Int)} (h1 : Stands u1 n p1) (h2 : Stands u2 n p2) (hc : ∀ i j, Cls n p1 i j ↔ Cls n p2 i j) :
    List.Perm ((roots u1).map fun (r : Nat) => (csize u1 (r : Int) : Int)) ((roots u2).map fun (r : Nat) => (csize u2 (r : Int) : Int)) := by
  have h := (roots_perm h1 h2 hc).map fun (r : Nat) => (csize u2 (r : Int) : Int)
  rw [List.map_map] at h
  refine List.Perm.trans (List.Perm.of_eq ?_) h
  apply List.map_congr_left
  intro r hr
  have l1 := h1.len
  have l2 := h2.len
  have hb := (mem_roots.1 hr).1
  have e := (h2.ok.rt_mem (i := (r : Int)) (by omega) (by omega)).2
  show _ = (csize u2 _ : Int)
  rw [e, csize_eq h1 h2 hc hr]
/-- A number put behind the last one that is not greater. -/
def ins (l : List Int) (x : Int) : List Int := match l with
  | [] => [x]
  | y :: t => if y ≤ x then y :: ins t x else x :: y :: t
theorem ins_perm (x : Int) : ∀ l, List.Perm (ins l x) (x :: l)
  | [] => List.Perm.refl _
  | y :: t => by
    unfold ins
    split
    · exact ((ins_perm x t).cons y).trans (List.Perm.swap x y t)
    · exact List.Perm.refl _
theorem ins_sorted (x : Int) : ∀ l : List Int, l.Pairwise (· ≤ ·) → (ins l x).Pairwise (· ≤ ·)
  | [], _ => List.pairwise_singleton _ _
  | y :: t, h => by
    unfold ins
    have h' := List.pairwise_cons.1 h
    split
    · rename_i hy
      refine List.pairwise_cons.2 ⟨fun z hz => ?_, ins_sorted x t h'.2⟩
      rcases List.mem_cons.1 ((ins_perm x t).mem_iff.1 hz) with e | e
      · rw [e]; exact hy
      · exact h'.1 z e
    · rename_i hy
      refine List.pairwise_cons.2 ⟨fun z hz => ?_, h⟩
      rcases List.mem_cons.1 hz with e | e
      · rw [e]; omega
      · have := h'.1 z e
        omega
def isort (l acc : List Int) : List Int := l.foldl ins acc
theorem isort_perm : ∀ (l acc : List Int), List.Perm (isort l acc) (l ++ acc)
  | [], _ => List.Perm.refl _
  | x :: t, acc => by
    show List.Perm (isort t (ins acc x)) _
    refine (isort_perm t _).trans ?_
    refine ((ins_perm x acc).append_left t).trans ?_
    rw [List.cons_append]
    exact List.perm_middle
theorem isort_sorted : ∀ (l acc : List Int), acc.Pairwise (· ≤ ·) → (isort l acc).Pairwise (· ≤ ·)
  | [], _, h => h
  | x :: t, acc, h => isort_sorted t _ (ins_sorted x acc h)
/-- Two lists of the same numbers are sorted to one. -/
theorem isort_eq {l m : List Int} (h : List.Perm l m) : isort l [] = isort m [] := by
  have p := ((isort_perm l []).trans (h.append_right [])).trans (isort_perm m []).symm
  exact p.eq_of_pairwise (fun a b _ _ h1 h2 => Int.le_antisymm h1 h2) (isort_sorted l [] List.Pairwise.nil) (isort_sorted m [] List.Pairwise.nil)
/-- Where the place is found from the end. -/
theorem ins_at : ∀ (l : List Int) (x : Int) (at_ : Nat), at_ ≤ l.length → (∀ j, j < at_ → (h : j < l.length) → l[j] ≤ x) → (∀ h : at_ < l.length, x < l[at_]) → l.take at_ ++ (x :: l.drop at_) = ins l x
  | [], x, at_, h, _, _ => by
    simp
    rfl
  | y :: t, x, 0, _, _, h2 => by
    have := h2 (by simp)
    show x :: y :: t = ins (y :: t) x
    unfold ins
    rw [if_neg (by simpa using this)]
  | y :: t, x, at_ + 1, h, h1, h2 => by
    have hy := h1 0 (by omega) (by simp)
    unfold ins
    rw [if_pos (show y ≤ x from by simpa using hy)]
    rw [List.take_succ_cons, List.drop_succ_cons, List.cons_append]
    rw [ins_at t x at_ (by simpa using h) (fun j hj hl => by have := h1 (j + 1) (by omega) (by simpa using hl); simpa using this) (fun hl => by have := h2 (by simpa using hl); simpa using this)]
end Go.Proofs.Ytfcdomcnkeeffaa.UF


namespace Go.Proofs.Ytfcdomcnkeeffaa.L
open Go.RowKit Go.Proofs.Ytfcdomcnkeeffaa.P Go.Proofs.Ytfcdomcnkeeffaa.Help
set_option linter.unusedVariables false
def mateN (d : Nat) : Nat := if d % 2 = 0 then d + 1 else d - 1
theorem mateN_bd {d n : Nat} (h : d < 2 * n) : mateN d < 2 * n := by
  unfold mateN
  split <;> omega
/-- What is joined at a dart. -/
def gp (w : List Int) (s : Int) (d : Nat) : List (Int × Int) := [((d : Int), (nx w s d : Int)), ((d : Int), (mateN d : Int))]
def allP (f : Nat → List (Int × Int)) : Nat → Nat → List (Int × Int)
  | 0, _ => []
  | n + 1, i => f i ++ allP f n (i + 1)
theorem mem_allP {f : Nat → List (Int × Int)} {p : Int × Int} : ∀ (n i : Nat), p ∈ allP f n i ↔ ∃ d, i ≤ d ∧ d < i + n ∧ p ∈ f d
  | 0, i => by
    simp only [allP]
    constructor
    · intro h; exact absurd h (by simp)
    · rintro ⟨d, h1, h2, _⟩; omega
  | n + 1, i => by
    rw [allP, List.mem_append, mem_allP n (i + 1)]
    constructor
    · rintro (h | ⟨d, h1, h2, h3⟩)
      · exact ⟨i, by omega, by omega, h⟩
      · exact ⟨d, by omega, by omega, h3⟩
    · rintro ⟨d, h1, h2, h3⟩
      by_cases e : d = i
      · subst e; exact .inl h3
      · exact .inr ⟨d, by omega, by omega, h3⟩
def prs (w : List Int) (s : Int) : List (Int × Int) := allP (gp w s) (2 * w.length) 0
theorem cls_nx {w : List Int} (h : cw w = true) (s : Int) {d : Nat} (hd : d < 2 * w.length) : UF.Cls (2 * (w.length : Int)) (prs w s) (d : Int) (nx w s d : Int) := by
  have b := (nx_bd h s hd).1
  exact .pair ((mem_allP _ _).2 ⟨d, by omega, by omega, by simp [gp]⟩) (by omega) (by omega) (by omega) (by omega)
theorem cls_mate {w : List Int} (s : Int) {d : Nat} (hd : d < 2 * w.length) : UF.Cls (2 * (w.length : Int)) (prs w s) (d : Int) (mateN d : Int) := by
  have b := mateN_bd hd
  exact .pair ((mem_allP _ _).2 ⟨d, by omega, by omega, by simp [gp]⟩) (by omega) (by omega) (by omega) (by omega)
theorem cls_lam {w : List Int} (h : cw w = true) (s : Int) {d e : Nat} (hd : d < 2 * w.length) (he : e < 2 * w.length) (hl : lam w e = lam w d) : UF.Cls (2 * (w.length : Int)) (prs w s) (d : Int) (e : Int) := by
  obtain ⟨p, q, ep, pq, ql, b1, b2, b3, en, li⟩ := nx_ring h hd
  generalize hr2 : 2 * prN p w.length + 1 = r2 at *
  generalize hr3 : 2 * prN q w.length + 1 = r3 at *
  generalize hr0 : 2 * p = r0 at *
  generalize hr1 : 2 * q = r1 at *
  have c0 : r0 < 2 * w.length := by omega
  have c1 : r1 < 2 * w.length := by omega
  have c2 : r2 < 2 * w.length := by omega
  have c3 : r3 < 2 * w.length := by omega
  have n01 : r0 ≠ r1 := by omega
  have n02 : r0 ≠ r2 := by omega
  have n03 : r0 ≠ r3 := by omega
  have n12 : r1 ≠ r2 := by omega
  have n13 : r1 ≠ r3 := by omega
  have n23 : r2 ≠ r3 := by omega
  have nxe : ∀ f, f < 2 * w.length → (f = r0 ∨ f = r1 ∨ f = r2 ∨ f = r3) → nx w s f = nxr (decide (bitOf s (lam w d) = 1)) r0 r1 r2 r3 f := by
    intro f hf hin
    obtain ⟨p', q', ep', _, _, _, _, _, en', _⟩ := nx_ring h hf
    have lf := (li f hf).2 hin
    rw [lf, ep] at ep'
    obtain ⟨e1, e2⟩ := Prod.mk.injEq .. ▸ ep'
    have e1' : p' = p := by omega
    have e2' : q' = q := by omega
    rw [en' s, lf, e1', e2', hr0, hr1, hr2, hr3]
  have all : UF.Cls (2 * (w.length : Int)) (prs w s) (r0 : Int) (r1 : Int) ∧ UF.Cls (2 * (w.length : Int)) (prs w s) (r1 : Int) (r2 : Int) ∧ UF.Cls (2 * (w.length : Int)) (prs w s) (r2 : Int) (r3 : Int) := by
    by_cases hb : bitOf s (lam w d) = 1
    · have x1 : nx w s r1 = r0 := by
        rw [nxe r1 c1 (by simp)]
        unfold nxr
        rw [decide_eq_true hb, if_pos rfl]
        repeat' split
        all_goals first | rfl | omega
      have x2 : nx w s r2 = r1 := by
        rw [nxe r2 c2 (by simp)]
        unfold nxr
        rw [decide_eq_true hb, if_pos rfl]
        repeat' split
        all_goals first | rfl | omega
      have x3 : nx w s r3 = r2 := by
        rw [nxe r3 c3 (by simp)]
        unfold nxr
        rw [decide_eq_true hb, if_pos rfl]
        repeat' split
        all_goals first | rfl | omega
      have y1 := cls_nx h s c1
      have y2 := cls_nx h s c2
      have y3 := cls_nx h s c3
      rw [x1] at y1
      rw [x2] at y2
      rw [x3] at y3
      exact ⟨y1.symm, y2.symm, y3.symm⟩
    · have x0 : nx w s r0 = r1 := by
        rw [nxe r0 c0 (by simp)]
        unfold nxr
        rw [decide_eq_false hb, if_neg (by decide)]
        repeat' split
        all_goals first | rfl | omega
      have x1 : nx w s r1 = r2 := by
        rw [nxe r1 c1 (by simp)]
        unfold nxr
        rw [decide_eq_false hb, if_neg (by decide)]
        repeat' split
        all_goals first | rfl | omega
      have x2 : nx w s r2 = r3 := by
        rw [nxe r2 c2 (by simp)]
        unfold nxr
        rw [decide_eq_false hb, if_neg (by decide)]
        repeat' split
        all_goals first | rfl | omega
      have y0 := cls_nx h s c0
      have y1 := cls_nx h s c1
      have y2 := cls_nx h s c2
      rw [x0] at y0
      rw [x1] at y1
      rw [x2] at y2
      exact ⟨y0, y1, y2⟩
  obtain ⟨a1, a2, a3⟩ := all
  have to0 : ∀ f, f < 2 * w.length → (f = r0 ∨ f = r1 ∨ f = r2 ∨ f = r3) → UF.Cls (2 * (w.length : Int)) (prs w s) (r0 : Int) (f : Int) := by
    rintro f hf (c | c | c | c)
    · subst c; exact .refl (by omega) (by omega)
    · subst c; exact a1
    · subst c; exact a1.trans a2
    · subst c; exact (a1.trans a2).trans a3
  exact (to0 d hd ((li d hd).1 rfl)).symm.trans (to0 e he ((li e he).1 hl))
theorem cls_even {w : List Int} (h : cw w = true) (s : Int) : ∀ i : Nat, i < w.length → UF.Cls (2 * (w.length : Int)) (prs w s) ((2 * i : Nat) : Int) 0
  | 0, hi => .refl (by omega) (by omega)
  | i + 1, hi => by
    have l1 : lam w (2 * i + 1) = lam w (2 * (i + 1)) := by
      unfold lam
      rw [if_neg (by omega), if_pos (by omega), show (2 * i + 1) / 2 = i by omega, show 2 * (i + 1) / 2 = i + 1 by omega, Nat.mod_eq_of_lt (by omega)]
    have c1 := cls_lam h s (show 2 * (i + 1) < 2 * w.length by omega) (show 2 * i + 1 < 2 * w.length by omega) l1
    have c2 := cls_mate (w := w) s (show 2 * i + 1 < 2 * w.length by omega)
    have e : mateN (2 * i + 1) = 2 * i := by unfold mateN; rw [if_neg (by omega)]; omega
    rw [e] at c2
    exact (c1.trans c2).trans (cls_even h s i (by omega))
theorem cls_zero {w : List Int} (h : cw w = true) (s : Int) {d : Nat} (hd : d < 2 * w.length) : UF.Cls (2 * (w.length : Int)) (prs w s) (d : Int) 0 := by
  by_cases e : d % 2 = 0
  · have := cls_even h s (d / 2) (by omega)
    rwa [show 2 * (d / 2) = d by omega] at this
  · have c2 := cls_mate (w := w) s hd
    have e2 : mateN d = 2 * (d / 2) := by unfold mateN; rw [if_neg e]; omega
    rw [e2] at c2
    exact c2.trans (cls_even h s (d / 2) (by omega))
/-- One part. -/
theorem one_root {w : List Int} (h : cw w = true) (s : Int) {up : List Int} (S : UF.Stands up (2 * (w.length : Int)) (prs w s)) : (UF.roots up).length ≤ 1 := by
  have := UF.roots_le S (UF.alone_stands 1) (fun _ => 0) (fun i _ _ => ⟨by omega, by omega⟩) (fun i j i0 i1 j0 j1 _ => by
    have a := cls_zero h s (show i.toNat < 2 * w.length by omega)
    have b := cls_zero h s (show j.toNat < 2 * w.length by omega)
    rw [Int.toNat_of_nonneg i0] at a
    rw [Int.toNat_of_nonneg j0] at b
    exact a.trans b.symm)
  have e : (UF.roots (UF.alone 1)).length = 1 := by decide
  omega
/-- The numbers of one's own that are bits. -/
def fmin (a : Int) (l : List Int) : Int := l.foldl (fun b x => if x < b then x else b) a
theorem fmin_le : ∀ (l : List Int) (a : Int), fmin a l ≤ a ∧ (∀ x ∈ l, fmin a l ≤ x) ∧ (fmin a l = a ∨ fmin a l ∈ l)
  | [], a => ⟨Int.le_refl _, fun x hx => absurd hx (by simp), .inl rfl⟩
  | y :: l, a => by
    have e : fmin a (y :: l) = fmin (if y < a then y else a) l := rfl
    obtain ⟨h1, h2, h3⟩ := fmin_le l (if y < a then y else a)
    rw [e]
    have hm : (if y < a then y else a) ≤ a ∧ (if y < a then y else a) ≤ y := by split <;> omega
    refine ⟨?_, ?_, ?_⟩
    · exact Int.le_trans h1 hm.1
    · intro x hx
      rcases List.mem_cons.1 hx with c | c
      · subst c
        exact Int.le_trans h1 hm.2
      · exact h2 x c
    · rcases h3 with c | c
      · by_cases ya : y < a
        · rw [if_pos ya] at c ⊢
          exact .inr (by rw [c]; exact List.mem_cons_self)
        · rw [if_neg ya] at c ⊢
          exact .inl c
      · exact .inr (List.mem_cons_of_mem _ c)
theorem fmin_eq {l m : List Int} {a b : Int} (hs : ∀ x, x ∈ l ↔ x ∈ m) (ha : ∀ x ∈ l, x ≤ a) (hb : ∀ x ∈ l, x ≤ b) (hn : ∃ x, x ∈ l) : fmin a l = fmin b m := by
  obtain ⟨a1, a2, a3⟩ := fmin_le l a
  obtain ⟨b1, b2, b3⟩ := fmin_le m b
  obtain ⟨x, hx⟩ := hn
  have p1 := a2 x hx
  have p2 := b2 x ((hs x).1 hx)
  have q1 := ha x hx
  have q2 := hb x hx
  rcases a3 with c | c
  · rcases b3 with d | d
    · omega
    · have := a2 _ ((hs _).2 d)
      have := ha _ ((hs _).2 d)
      omega
  · have r1 := b2 _ ((hs _).1 c)
    rcases b3 with d | d
    · have := hb _ c
      omega
    · have := a2 _ ((hs _).2 d)
      omega
end Go.Proofs.Ytfcdomcnkeeffaa.L

namespace Go.Proofs.Ytfcdomcnkeeffaa.UF
set_option linter.unusedVariables false
theorem Cls.map {n1 n2 : Int} {p1 p2 : List (Int × Int)} (f : Int → Int) (hf : ∀ i, 0 ≤ i → i < n1 → 0 ≤ f i ∧ f i < n2) (hp : ∀ i j, (i, j) ∈ p1 → 0 ≤ i → i < n1 → 0 ≤ j → j < n1 → Cls n2 p2 (f i) (f j)) {i j : Int} (h : Cls n1 p1 i j) : Cls n2 p2 (f i) (f j) := by
  induction h with
  | refl h0 h1 =>
    have := hf _ h0 h1
    exact .refl this.1 this.2
  | pair h h0 h1 h2 h3 => exact hp _ _ h h0 h1 h2 h3
  | symm _ ih => exact ih.symm
  | trans _ _ ih1 ih2 => exact ih1.trans ih2
theorem Stands.same_iff {up : List Int} {n : Int} {ps : List (Int × Int)} (h : Stands up n ps) {i j : Int} (hi : 0 ≤ i ∧ i < n) (hj : 0 ≤ j ∧ j < n) : rt up i = rt up j ↔ Cls n ps i j := by
  have hl := h.len
  have ri := h.ok.rt hi.1 (by omega)
  have rj := h.ok.rt hj.1 (by omega)
  rw [h.cls]
  constructor
  · intro e
    exact ⟨hi, hj, _, ri, by rw [e]; exact rj⟩
  · rintro ⟨_, _, s, s1, s2⟩
    rw [rt_of s1, rt_of s2]
/-- How long a way to a root can be: as long as the forest. -/
inductive Way (up : List Int) : Nat → Int → Int → Prop
  | here {r : Int} (h : P up r = r) : Way up 0 r r
  | step {k : Nat} {i r : Int} (h : P up i ≠ i) (w : Way up k (P up i) r) : Way up (k + 1) i r
theorem Root.way {up : List Int} {i r : Int} (h : Root up i r) : ∃ k, Way up k i r := by
  induction h with
  | here h => exact ⟨0, .here h⟩
  | step h _ ih =>
    obtain ⟨k, hk⟩ := ih
    exact ⟨k + 1, .step h hk⟩
theorem Way.root {up : List Int} {k : Nat} {i r : Int} (h : Way up k i r) : Root up i r := by
  induction h with
  | here h => exact .here h
  | step h _ ih => exact .step h ih
theorem Way.uniq {up : List Int} {k : Nat} {i r : Int} (h : Way up k i r) : ∀ {m : Nat} {s : Int}, Way up m i s → k = m := by
  induction h with
  | here h =>
    intro m s hs
    cases hs with
    | here _ => rfl
    | step h2 _ => exact absurd h h2
  | step h _ ih =>
    intro m s hs
    cases hs with
    | here h2 => exact absurd h2 h
    | step _ k2 => rw [ih k2]
/-- The numbers on a way. -/
def path (up : List Int) : Nat → Int → List Int
  | 0, i => [i]
  | k + 1, i => i :: path up k (P up i)
theorem path_len (up : List Int) : ∀ k i, (path up k i).length = k + 1
  | 0, _ => rfl
  | k + 1, i => by rw [path, List.length_cons, path_len up k]
theorem Way.nodup {up : List Int} {k : Nat} {i r : Int} (h : Way up k i r) : (path up k i).Nodup ∧ ∀ x, x ∈ path up k i → ∃ m, m ≤ k ∧ Way up m x r := by
  induction h with
  | @here r h =>
    refine ⟨by simp [path], fun x hx => ?_⟩
    have : x = r := by simpa [path] using hx
    subst this
    exact ⟨0, Nat.le_refl _, .here h⟩
  | @step k i r h w ih =>
    refine ⟨?_, fun x hx => ?_⟩
    · rw [path, List.nodup_cons]
      refine ⟨fun hc => ?_, ih.1⟩
      obtain ⟨m, hm, hw⟩ := ih.2 _ hc
      have := hw.uniq (Way.step h w)
      omega
    · rw [path] at hx
      rcases List.mem_cons.1 hx with e | e
      · subst e
        exact ⟨k + 1, Nat.le_refl _, .step h w⟩
      · obtain ⟨m, hm, hw⟩ := ih.2 _ e
        exact ⟨m, by omega, hw⟩
theorem Ok.path_bd {up : List Int} (hok : Ok up) : ∀ (k : Nat) (i : Int), 0 ≤ i → i < up.length → ∀ x, x ∈ path up k i → 0 ≤ x ∧ x < up.length
  | 0, i, h0, h1, x, hx => by
    have : x = i := by simpa [path] using hx
    omega
  | k + 1, i, h0, h1, x, hx => by
    rw [path] at hx
    rcases List.mem_cons.1 hx with e | e
    · omega
    · exact Ok.path_bd hok k _ (hok i h0 h1).1.1 (hok i h0 h1).1.2 x e
theorem Way.short {up : List Int} (hok : Ok up) {k : Nat} {i r : Int} (h : Way up k i r) (h0 : 0 ≤ i) (h1 : i < up.length) : k < up.length := by
  have hb := hok.path_bd k i h0 h1
  have hn := map_nodup (fun (x : Int) => x.toNat) h.nodup.1 (fun a b ha hb' e => by
    have := hb a ha
    have := hb b hb'
    have e' : a.toNat = b.toNat := e
    omega)
  have := List.Nodup.length_le_of_subset (l₂ := List.range up.length) hn (fun x hx => by
    obtain ⟨a, ha, rfl⟩ := List.mem_map.1 hx
    have := hb a ha
    exact List.mem_range.2 (by omega))
  rw [List.length_map, path_len, List.length_range] at this
  omega
/-- Every number has a way to its root that is shorter than the forest. -/
theorem Ok.way {up : List Int} (hok : Ok up) {i : Int} (h0 : 0 ≤ i) (h1 : i < up.length) : ∃ k, k < up.length ∧ Way up k i (UF.rt up i) := by
  obtain ⟨k, hk⟩ := (hok.rt h0 h1).way
  exact ⟨k, hk.short hok h0 h1, hk⟩
end Go.Proofs.Ytfcdomcnkeeffaa.UF

namespace Go.Proofs.Ytfcdomcnkeeffaa.L
open Go.RowKit Go.Proofs.Ytfcdomcnkeeffaa.P Go.Proofs.Ytfcdomcnkeeffaa.Help Go.Proofs.YtfcdomcnkeeffaaW.PrintWords
set_option linter.unusedVariables false
set_option linter.unusedSimpArgs false

theorem top_way {up : List Int} (hok : UF.Ok up) {k : Nat} {i r : Int} (h : UF.Way up k i r) : ∀ m, k < m → 0 ≤ i → i < up.length → joiner_top.l0 m up i = some r := by
  induction h with
  | @here r h =>
    intro m hm h0 h1
    obtain ⟨m, rfl⟩ : ∃ q, m = q + 1 := ⟨m - 1, by omega⟩
    simp only [joiner_top.l0]
    rw [if_pos h0, if_pos h1, if_pos (show rd up r = r from h)]
  | @step k i r h w ih =>
    intro m hm h0 h1
    obtain ⟨m, rfl⟩ : ∃ q, m = q + 1 := ⟨m - 1, by omega⟩
    have hb := (hok i h0 h1).1
    simp only [joiner_top.l0]
    rw [if_pos h0, if_pos h1, if_neg (show ¬ rd up i = i from h)]
    exact ih m (by omega) hb.1 hb.2
theorem find_way {up : List Int} (hok : UF.Ok up) {k : Nat} {i r : Int} (h : UF.Way up k i r) : ∀ m, k < m → 0 ≤ i → i < up.length → spec_l3Find.l0 m up i = some r := by
  induction h with
  | @here r h =>
    intro m hm h0 h1
    obtain ⟨m, rfl⟩ : ∃ q, m = q + 1 := ⟨m - 1, by omega⟩
    simp only [spec_l3Find.l0]
    rw [if_pos h0, if_pos h1, if_pos (show rd up r = r from h)]
  | @step k i r h w ih =>
    intro m hm h0 h1
    obtain ⟨m, rfl⟩ : ∃ q, m = q + 1 := ⟨m - 1, by omega⟩
    have hb := (hok i h0 h1).1
    simp only [spec_l3Find.l0]
    rw [if_pos h0, if_pos h1, if_neg (show ¬ rd up i = i from h)]
    exact ih m (by omega) hb.1 hb.2
theorem top_f {up : List Int} (hok : UF.Ok up) {i : Int} (h0 : 0 ≤ i) (h1 : i < up.length) {m : Nat} (hm : up.length ≤ m) : joiner_top.l0 m up i = some (UF.rt up i) := by
  obtain ⟨k, hk, w⟩ := hok.way h0 h1
  exact top_way hok w m (by omega) h0 h1
theorem find3_f {up : List Int} (hok : UF.Ok up) {i : Int} (h0 : 0 ≤ i) (h1 : i < up.length) {m : Nat} (hm : up.length ≤ m) : spec_l3Find.f m up i = some (UF.rt up i) := by
  obtain ⟨k, hk, w⟩ := hok.way h0 h1
  exact find_way hok w m (by omega) h0 h1
theorem join_f {up : List Int} {n : Int} {ps : List (Int × Int)} (h : UF.Stands up n ps) {a b : Int} (ha : 0 ≤ a ∧ a < n) (hb : 0 ≤ b ∧ b < n) {m : Nat} (hm : up.length ≤ m) : ∃ ys, joiner_join.f m up a b = some ys ∧ UF.Stands ys n (ps ++ [(a, b)]) := by
  have hl := h.len
  have ra := h.ok.rt ha.1 (by omega)
  have rb := h.ok.rt hb.1 (by omega)
  have ba := h.ok.bd ra ha.1 (by omega)
  have bb := h.ok.bd rb hb.1 (by omega)
  have J := h.join ha hb ra rb
  unfold joiner_join.f
  rw [top_f h.ok ha.1 (by omega) hm, Option.bind_some, top_f h.ok hb.1 (by omega) hm, Option.bind_some]
  unfold joiner_join.put
  by_cases c : UF.rt up a > UF.rt up b
  · rw [if_pos c, if_pos ba.1, if_pos ba.2]
    exact ⟨_, rfl, J.1⟩
  · rw [if_neg c, if_pos bb.1, if_pos bb.2]
    exact ⟨_, rfl, J.2⟩
theorem alone_succ (n : Nat) : UF.alone (n + 1) = UF.alone n ++ [(n : Int)] := by
  unfold UF.alone
  rw [List.range_succ, List.map_append]
  rfl
theorem alone_len (n : Nat) : (UF.alone n).length = n := by simp [UF.alone]
theorem newJoiner_l0 (n : Nat) (hn : n ≤ 1000000) : ∀ (d k i : Nat), i + d = n → d < k → impl_newJoiner.l0 k (n : Int) (UF.alone i) (i : Int) = some (UF.alone n) := by
  intro d
  induction d with
  | zero =>
    intro k i hi hk
    obtain ⟨k, rfl⟩ : ∃ m, k = m + 1 := ⟨k - 1, by omega⟩
    simp only [impl_newJoiner.l0]
    rw [if_neg (by omega), show i = n by omega]
  | succ d ih =>
    intro k i hi hk
    obtain ⟨k, rfl⟩ : ∃ m, k = m + 1 := ⟨k - 1, by omega⟩
    simp only [impl_newJoiner.l0]
    rw [if_pos (by omega), if_pos (by rw [alone_len]; omega), w_id (by omega) (by omega), show ((i : Int) + 1) = ((i + 1 : Nat) : Int) by omega, ← alone_succ, ih k (i + 1) (by omega) (by omega)]
theorem newJoiner_f (n : Nat) (hn : n ≤ 1000000) (k : Nat) (hk : n < k) : impl_newJoiner.l0 k (n : Int) [] 0 = some (UF.alone n) := newJoiner_l0 n hn n k 0 (by omega) hk
/-- The pairs of all triangles, side by side. -/
def rowG (f : Nat → Nat → List (Int × Int)) (i : Nat) : Nat → Nat → List (Int × Int)
  | 0, _ => []
  | d + 1, j => f i j ++ rowG f i d (j + 1)
def allG (f : Nat → Nat → List (Int × Int)) : Nat → Nat → List (Int × Int)
  | 0, _ => []
  | d + 1, i => rowG f i 3 0 ++ allG f d (i + 1)
theorem mem_rowG {f : Nat → Nat → List (Int × Int)} {i : Nat} {p : Int × Int} : ∀ (d j : Nat), p ∈ rowG f i d j ↔ ∃ q, j ≤ q ∧ q < j + d ∧ p ∈ f i q
  | 0, j => by
    simp only [rowG, List.not_mem_nil, false_iff]
    rintro ⟨q, h1, h2, _⟩
    omega
  | d + 1, j => by
    rw [rowG, List.mem_append, mem_rowG d (j + 1)]
    constructor
    · rintro (h | ⟨q, h1, h2, h3⟩)
      · exact ⟨j, by omega, by omega, h⟩
      · exact ⟨q, by omega, by omega, h3⟩
    · rintro ⟨q, h1, h2, h3⟩
      by_cases e : q = j
      · subst e; exact .inl h3
      · exact .inr ⟨q, by omega, by omega, h3⟩
theorem mem_allG {f : Nat → Nat → List (Int × Int)} {p : Int × Int} : ∀ (d i : Nat), p ∈ allG f d i ↔ ∃ r, i ≤ r ∧ r < i + d ∧ ∃ q, q < 3 ∧ p ∈ f r q
  | 0, i => by
    simp only [allG, List.not_mem_nil, false_iff]
    rintro ⟨q, h1, h2, _⟩
    omega
  | d + 1, i => by
    rw [allG, List.mem_append, mem_rowG, mem_allG d (i + 1)]
    constructor
    · rintro (⟨q, _, h2, h3⟩ | ⟨r, h1, h2, h3⟩)
      · exact ⟨i, by omega, by omega, q, by omega, h3⟩
      · exact ⟨r, by omega, by omega, h3⟩
    · rintro ⟨r, h1, h2, q, h3, h4⟩
      by_cases e : r = i
      · subst e; exact .inl ⟨q, by omega, by omega, h4⟩
      · exact .inr ⟨r, by omega, by omega, q, h3, h4⟩
end Go.Proofs.Ytfcdomcnkeeffaa.L

namespace Go.Proofs.Ytfcdomcnkeeffaa.L
open Go.RowKit Go.Proofs.Ytfcdomcnkeeffaa.P Go.Proofs.Ytfcdomcnkeeffaa.Help Go.Proofs.YtfcdomcnkeeffaaW.PrintWords Go.Proofs.YtfcdomcnkeeffaaW.PrintLast Go.Proofs.YtfcdomcnkeeffaaW.PrintMore
set_option linter.unusedVariables false
set_option linter.unusedSimpArgs false

/-- A row that is a permutation told by a function. -/
structure Pm (m : List Int) (f : Nat → Nat) : Prop where
  lo : 4 ≤ m.length
  hi : m.length ≤ 24
  at_ : ∀ d, d < m.length → m.getD d 0 = (f d : Int)
  bd : ∀ d, d < m.length → f d < m.length
  inj : ∀ d e, d < m.length → e < m.length → f d = f e → d = e
theorem rdg (m : List Int) (d : Nat) : rd m (d : Int) = m.getD d 0 := by
  unfold rd
  rw [Int.toNat_natCast]
theorem rdb (m : List Bool) (d : Nat) : rdOf false m (d : Int) = m.getD d false := by
  unfold rdOf
  rw [Int.toNat_natCast]
def seenF (f : Nat → Nat) (N i : Nat) : List Bool := (List.range N).map fun j => (List.range i).any fun d => f d == j
theorem seenF_len (f : Nat → Nat) (N i : Nat) : (seenF f N i).length = N := by simp [seenF]
theorem seenF_at (f : Nat → Nat) {N i j : Nat} (h : j < N) : (seenF f N i).getD j false = (List.range i).any fun d => f d == j := by
  unfold seenF
  rw [List.getD_eq_getElem?_getD, List.getElem?_map, List.getElem?_range h]
  rfl
theorem seenF_set (f : Nat → Nat) {N i : Nat} (h : f i < N) : (seenF f N i).set (f i) true = seenF f N (i + 1) := by
  apply List.ext_getElem
  · simp [seenF]
  · intro j h1 h2
    simp only [seenF, List.getElem_set, List.getElem_map, List.getElem_range, List.range_succ, List.any_append, List.any_cons, List.any_nil, Bool.or_false]
    by_cases e : f i = j
    · rw [if_pos e]
      simp [e]
    · rw [if_neg e]
      have : (f i == j) = false := by simpa using e
      rw [this, Bool.or_false]
theorem within_g (a b c : Int) : impl_within.f a b c = some (decide (b ≤ a ∧ a ≤ c)) := by
  unfold impl_within.f
  by_cases h : a ≥ b
  · rw [if_pos h]
    congr 1
    by_cases h2 : a ≤ c
    · rw [decide_eq_true h2, decide_eq_true ⟨h, h2⟩]
    · rw [decide_eq_false h2, decide_eq_false (fun x => h2 x.2)]
  · rw [if_neg h, decide_eq_false (fun x => h x.1)]
theorem perm_l0 {m : List Int} {f : Nat → Nat} (h : Pm m f) : ∀ (d k i : Nat), i + d = m.length → d < k → impl_isPermutation.l0 k m (seenF f m.length i) m (m.length : Int) (i : Int) = some true
  | 0, k, i, hi, hk => by
    obtain ⟨k, rfl⟩ : ∃ m, k = m + 1 := ⟨k - 1, by omega⟩
    simp only [impl_isPermutation.l0]
    rw [if_neg (by omega)]
  | d + 1, k, i, hi, hk => by
    obtain ⟨k, rfl⟩ : ∃ m, k = m + 1 := ⟨k - 1, by omega⟩
    have h1 := h.lo
    have h2 := h.hi
    have hlt : i < m.length := by omega
    have e := h.at_ i hlt
    have b := h.bd i hlt
    have ns : (seenF f m.length i).getD (f i) false = false := by
      rw [seenF_at f b, List.any_eq_false]
      intro d' hd' he
      rw [List.mem_range] at hd'
      have := h.inj d' i (by omega) hlt (by simpa using he)
      omega
    simp only [impl_isPermutation.l0]
    rw [if_pos (by omega), if_pos (by omega), if_pos (by omega), rdg, e, w_id (by omega) (by omega), within_g, Option.bind_some, if_pos (decide_eq_true ⟨by omega, by omega⟩), if_pos (by omega), if_pos (by rw [seenF_len]; omega), rdb, ns, if_neg (by decide), Int.toNat_natCast, seenF_set f b, w_id (by omega) (by omega), show ((i : Int) + 1) = ((i + 1 : Nat) : Int) by omega]
    exact perm_l0 h d k (i + 1) (by omega) (by omega)
theorem seenF_zero (f : Nat → Nat) (N : Nat) : seenF f N 0 = List.replicate N false := by
  apply List.ext_getElem
  · simp [seenF]
  · intro j h1 h2
    simp [seenF]
theorem isMap_f {m : List Int} {f : Nat → Nat} (h : Pm m f) (he : m.length % 2 = 0) (k : Nat) (hk : 30 < k) : impl_IsMap.f k m = some true := by
  have h1 := h.lo
  have h2 := h.hi
  have hp : impl_isPermutation.l0 k m (seenF f m.length 0) m (m.length : Int) 0 = some true := perm_l0 h m.length k 0 (by omega) (by omega)
  unfold impl_IsMap.f impl_isPermutation.f
  rw [within_g, Option.bind_some, if_pos (decide_eq_true ⟨by omega, by omega⟩), if_pos (by omega), if_pos (by omega), if_pos (by omega), Int.toNat_natCast, ← seenF_zero f, hp]
  rfl
/-- How many are not seen. -/
def nos : List Bool → Nat
  | [] => 0
  | b :: t => (if b = true then 0 else 1) + nos t
theorem nos_le : ∀ l : List Bool, nos l ≤ l.length
  | [] => Nat.le_refl _
  | b :: t => by
    have := nos_le t
    rw [nos, List.length_cons]
    split <;> omega
theorem nos_set : ∀ (l : List Bool) (i : Nat), i < l.length → l.getD i false = false → nos (l.set i true) + 1 = nos l
  | [], i, h, _ => absurd h (by simp)
  | b :: t, 0, h, e => by
    have e' : b = false := e
    subst e'
    simp [nos]
    omega
  | b :: t, i + 1, h, e => by
    have := nos_set t i (by simpa using h) e
    rw [List.set_cons_succ, nos, nos]
    omega
theorem cyc {m : List Int} (h2 : m.length ≤ 24) (hb : ∀ d, d < m.length → 0 ≤ m.getD d 0 ∧ m.getD d 0 < (m.length : Int)) : ∀ b : Nat,
    (∀ (out : List (List Int)) (seen : List Bool) (d : Nat), d ≤ m.length → seen.length = m.length → 2 * (m.length - d) + nos seen ≤ b → out.length ≤ d → ∃ C : List (List Int), C.length ≤ m.length ∧ ∀ k, b < k → spec_l6Cycles.l0 k m out seen (d : Int) = some C ∧ impl_cycles.l0 k m out seen (m.length : Int) (d : Int) = some C) ∧
    (∀ (out : List (List Int)) (seen : List Bool) (d : Nat) (own : List Int) (cur : Nat), d < m.length → cur < m.length → seen.length = m.length → 2 * (m.length - d) - 1 + nos seen ≤ b → out.length ≤ d → own.length + nos seen ≤ 100 → ∃ C : List (List Int), C.length ≤ m.length ∧ ∀ k, b < k → spec_l6Cycles.l1 k m out seen (d : Int) own (cur : Int) = some C ∧ impl_cycles.l1 k m out seen own (cur : Int) (m.length : Int) (d : Int) = some C)
  | 0 => by
    refine ⟨?_, ?_⟩
    · intro out seen d hd hs hm ho
      refine ⟨out, by omega, fun k hk => ?_⟩
      obtain ⟨k, rfl⟩ : ∃ q, k = q + 1 := ⟨k - 1, by omega⟩
      simp only [spec_l6Cycles.l0, impl_cycles.l0]
      rw [if_neg (by omega), if_neg (by omega)]
      exact ⟨rfl, rfl⟩
    · intro out seen d own cur hd hc hs hm ho hw
      omega
  | b + 1 => by
    obtain ⟨ih0, ih1⟩ := cyc h2 hb b
    refine ⟨?_, ?_⟩
    · intro out seen d hd hs hm ho
      by_cases hlt : d < m.length
      · by_cases s : seen.getD d false = true
        · obtain ⟨C, hC, hk0⟩ := ih0 out seen (d + 1) (by omega) hs (by omega) (by omega)
          refine ⟨C, hC, fun k hk => ?_⟩
          obtain ⟨k, rfl⟩ : ∃ q, k = q + 1 := ⟨k - 1, by omega⟩
          simp only [spec_l6Cycles.l0, impl_cycles.l0]
          rw [if_pos (by omega), if_pos (by omega), if_pos (by omega), rdb, if_pos s, if_pos (by omega), if_pos (by omega), if_pos (by omega), if_pos s, w_id (by omega) (by omega), show ((d : Int) + 1) = ((d + 1 : Nat) : Int) by omega]
          exact hk0 k (by omega)
        · obtain ⟨C, hC, hk0⟩ := ih1 out seen d [] d hlt hlt hs (by omega) ho (by have := nos_le seen; simp; omega)
          refine ⟨C, hC, fun k hk => ?_⟩
          obtain ⟨k, rfl⟩ : ∃ q, k = q + 1 := ⟨k - 1, by omega⟩
          simp only [spec_l6Cycles.l0, impl_cycles.l0]
          rw [if_pos (by omega), if_pos (by omega), if_pos (by omega), rdb, if_neg s, if_pos (by omega), if_pos (by omega), if_pos (by omega), if_neg s]
          exact hk0 k (by omega)
      · refine ⟨out, by omega, fun k hk => ?_⟩
        obtain ⟨k, rfl⟩ : ∃ q, k = q + 1 := ⟨k - 1, by omega⟩
        simp only [spec_l6Cycles.l0, impl_cycles.l0]
        rw [if_neg (by omega), if_neg (by omega)]
        exact ⟨rfl, rfl⟩
    · intro out seen d own cur hd hc hs hm ho hw
      by_cases s : seen.getD cur false = true
      · obtain ⟨C, hC, hk0⟩ := ih0 (out ++ [own]) seen (d + 1) (by omega) hs (by omega) (by rw [List.length_append]; simp; omega)
        refine ⟨C, hC, fun k hk => ?_⟩
        obtain ⟨k, rfl⟩ : ∃ q, k = q + 1 := ⟨k - 1, by omega⟩
        simp only [spec_l6Cycles.l1, impl_cycles.l1]
        rw [if_pos (by omega), if_pos (by omega), rdb, if_pos s, if_pos (by omega), if_pos (by omega), if_pos (by omega), if_pos s, if_pos (by omega), w_id (by omega) (by omega), show ((d : Int) + 1) = ((d + 1 : Nat) : Int) by omega]
        exact hk0 k (by omega)
      · have s' : seen.getD cur false = false := by simpa using s
        have hn := nos_set seen cur (by omega) s'
        have hbd := hb cur hc
        obtain ⟨C, hC, hk0⟩ := ih1 out (seen.set cur true) d (own ++ [(cur : Int)]) (m.getD cur 0).toNat hd (by omega) (by rw [List.length_set]; exact hs) (by omega) ho (by rw [List.length_append]; simp; omega)
        refine ⟨C, hC, fun k hk => ?_⟩
        obtain ⟨k, rfl⟩ : ∃ q, k = q + 1 := ⟨k - 1, by omega⟩
        have e := hk0 k (by omega)
        rw [Int.toNat_of_nonneg hbd.1] at e
        simp only [spec_l6Cycles.l1, impl_cycles.l1]
        rw [if_pos (by omega), if_pos (by omega), rdb, if_neg s, if_pos (by omega), if_pos (by omega), if_pos (by omega), if_pos (by omega), if_neg s, if_pos (by omega), if_pos (by omega), rdg, Int.toNat_natCast]
        exact e
theorem cycles_f {m : List Int} (h2 : m.length ≤ 24) (hb : ∀ d, d < m.length → 0 ≤ m.getD d 0 ∧ m.getD d 0 < (m.length : Int)) : ∃ C : List (List Int), C.length ≤ 24 ∧ ∀ k, 100 < k → spec_l6Cycles.f k m = some C ∧ impl_cycles.f k m = some C := by
  have hn := nos_le (List.replicate m.length false)
  rw [List.length_replicate] at hn
  obtain ⟨C, hC, hk⟩ := (cyc h2 hb 100).1 [] (List.replicate m.length false) 0 (by omega) (by simp) (by omega) (by simp)
  refine ⟨C, by omega, fun k hkk => ?_⟩
  unfold spec_l6Cycles.f impl_cycles.f
  rw [if_pos (by omega), if_pos (by omega), if_pos (by omega), if_pos (by omega), Int.toNat_natCast]
  exact hk k hkk
/-- The mate of a dart, as the program and the reference tell it. -/
theorem xor_eq : ∀ d : Fin 24, Go.bits .xor .i64 ((d : Nat) : Int) 1 = (mateN (d : Nat) : Int) := by decide +kernel
theorem mate_eq : ∀ d : Fin 24, spec_l6Mate.f ((d : Nat) : Int) = some (mateN (d : Nat) : Int) := by decide +kernel
def dualL (m : List Int) : List Int := (List.range m.length).map fun d => m.getD (mateN d) 0
theorem dualL_len (m : List Int) : (dualL m).length = m.length := by simp [dualL]
theorem dualL_get (m : List Int) {i : Nat} (h : i < (dualL m).length) : (dualL m)[i] = m.getD (mateN i) 0 := by simp [dualL]
theorem mate_lt {m : List Int} (he : m.length % 2 = 0) {d : Nat} (h : d < m.length) : mateN d < m.length := by
  unfold mateN
  split <;> omega
theorem spec_dual_l0 {m : List Int} (h2 : m.length ≤ 24) (he : m.length % 2 = 0) : ∀ (d k i : Nat), i + d = m.length → d < k → spec_l6Dual.l0 k m ((dualL m).take i) (i : Int) = some (dualL m)
  | 0, k, i, hi, hk => by
    obtain ⟨k, rfl⟩ : ∃ m, k = m + 1 := ⟨k - 1, by omega⟩
    simp only [spec_l6Dual.l0]
    rw [if_neg (by omega), List.take_of_length_le (by rw [dualL_len]; omega)]
  | d + 1, k, i, hi, hk => by
    obtain ⟨k, rfl⟩ : ∃ m, k = m + 1 := ⟨k - 1, by omega⟩
    have hlt : i < (dualL m).length := by rw [dualL_len]; omega
    have hm := mate_lt he (show i < m.length by omega)
    have hme : spec_l6Mate.f (i : Int) = some (mateN i : Int) := mate_eq ⟨i, by omega⟩
    simp only [spec_l6Dual.l0]
    rw [if_pos (by omega), hme, Option.bind_some, if_pos (by omega), if_pos (by omega), if_pos (by rw [List.length_take]; omega), rdg, ← dualL_get m hlt, ← List.take_succ_eq_append_getElem hlt, w_id (by omega) (by omega), show ((i : Int) + 1) = ((i + 1 : Nat) : Int) by omega]
    exact spec_dual_l0 h2 he d k (i + 1) (by omega) (by omega)
theorem put_take {xs : List Int} {i : Nat} (h : i < xs.length) : (xs.take i ++ List.replicate (xs.length - i) 0).set i xs[i] = xs.take (i + 1) ++ List.replicate (xs.length - (i + 1)) 0 := by
  rw [List.set_append_right _ _ (by rw [List.length_take]; omega), List.length_take, show i - min i xs.length = 0 by omega, show xs.length - i = (xs.length - (i + 1)) + 1 by omega, List.replicate_succ, List.set_cons_zero, List.take_succ_eq_append_getElem h, List.append_assoc]
  rfl
theorem impl_dual_l0 {m : List Int} (h2 : m.length ≤ 24) (he : m.length % 2 = 0) : ∀ (d k i : Nat), i + d = m.length → d < k → impl_dual.l0 k m ((dualL m).take i ++ List.replicate (m.length - i) 0) (m.length : Int) (i : Int) = some (dualL m)
  | 0, k, i, hi, hk => by
    obtain ⟨k, rfl⟩ : ∃ m, k = m + 1 := ⟨k - 1, by omega⟩
    simp only [impl_dual.l0]
    rw [if_neg (by omega), List.take_of_length_le (by rw [dualL_len]; omega), show m.length - i = 0 by omega, List.replicate_zero, List.append_nil]
  | d + 1, k, i, hi, hk => by
    obtain ⟨k, rfl⟩ : ∃ m, k = m + 1 := ⟨k - 1, by omega⟩
    have hlt : i < (dualL m).length := by rw [dualL_len]; omega
    have hm := mate_lt he (show i < m.length by omega)
    have hx : Go.bits .xor .i64 (i : Int) 1 = (mateN i : Int) := xor_eq ⟨i, by omega⟩
    have hp := put_take hlt
    rw [dualL_len] at hp
    simp only [impl_dual.l0]
    rw [if_pos (by omega), hx, if_pos (by omega), if_pos (by omega), if_pos (by omega), if_pos (by rw [List.length_append, List.length_take, List.length_replicate, dualL_len]; omega), rdg, ← dualL_get m hlt, Int.toNat_natCast, hp, w_id (by omega) (by omega), show ((i : Int) + 1) = ((i + 1 : Nat) : Int) by omega]
    exact impl_dual_l0 h2 he d k (i + 1) (by omega) (by omega)
theorem dual_f {m : List Int} (h2 : m.length ≤ 24) (he : m.length % 2 = 0) (k : Nat) (hk : 30 < k) : spec_l6Dual.f k m = some (dualL m) ∧ impl_dual.f k m = some (dualL m) := by
  constructor
  · exact spec_dual_l0 h2 he m.length k 0 (by omega) (by omega)
  · unfold impl_dual.f
    rw [if_pos (by omega), if_pos (by omega), Int.toNat_natCast]
    have := impl_dual_l0 h2 he m.length k 0 (by omega) (by omega)
    rw [List.take_zero, List.nil_append] at this
    exact this
/-- Counting roots. -/
def cntR (up : List Int) (i : Nat) : Nat := ((List.range i).filter fun (k : Nat) => decide (UF.P up (k : Int) = (k : Int))).length
theorem cntR_succ (up : List Int) (i : Nat) : cntR up (i + 1) = cntR up i + (if UF.P up (i : Int) = (i : Int) then 1 else 0) := by
  unfold cntR
  rw [List.range_succ, List.filter_append, List.length_append]
  congr 1
  by_cases h : UF.P up (i : Int) = (i : Int)
  · rw [if_pos h]; simp [h]
  · rw [if_neg h]; simp [h]
theorem cntR_le (up : List Int) : ∀ i, cntR up i ≤ i
  | 0 => Nat.le_refl _
  | i + 1 => by
    have := cntR_le up i
    rw [cntR_succ]
    split <;> omega
theorem P_rd (up : List Int) (i : Nat) : UF.P up (i : Int) = rd up (i : Int) := rfl
theorem count_l0 (up : List Int) (hu : up.length ≤ 1000) : ∀ (d k i : Nat), i + d = up.length → d < k → joiner_count.l0 k up (cntR up i : Int) (i : Int) = some ((UF.roots up).length : Int)
  | 0, k, i, hi, hk => by
    obtain ⟨k, rfl⟩ : ∃ m, k = m + 1 := ⟨k - 1, by omega⟩
    simp only [joiner_count.l0]
    rw [if_neg (by omega), show i = up.length by omega]
    rfl
  | d + 1, k, i, hi, hk => by
    obtain ⟨k, rfl⟩ : ∃ m, k = m + 1 := ⟨k - 1, by omega⟩
    have hc := cntR_le up i
    have ih := count_l0 up hu d k (i + 1) (by omega) (by omega)
    rw [cntR_succ, P_rd] at ih
    simp only [joiner_count.l0]
    rw [if_pos (by omega), if_pos (by omega), w_id (a := (i : Int) + 1) (by omega) (by omega), show ((i : Int) + 1) = ((i + 1 : Nat) : Int) by omega]
    by_cases h : rd up (i : Int) = (i : Int)
    · rw [if_pos h.symm, w_id (by omega) (by omega)]
      rw [if_pos h] at ih
      rw [show ((cntR up i : Int) + 1) = ((cntR up i + 1 : Nat) : Int) by omega]
      exact ih
    · rw [if_neg (fun e => h e.symm)]
      rw [if_neg h, Nat.add_zero] at ih
      exact ih
theorem bit_g (b : Bool) : spec_l1Bit.f b = some (if b = true then 1 else 0) := by
  unfold spec_l1Bit.f
  cases b <;> rfl
theorem parts_l2 (m up : List Int) (hl : up.length = m.length) (hu : up.length ≤ 1000) : ∀ (d k i : Nat), i + d = up.length → d < k → spec_l6Parts.l2 k m up (cntR up i : Int) (i : Int) = some ((UF.roots up).length : Int)
  | 0, k, i, hi, hk => by
    obtain ⟨k, rfl⟩ : ∃ m, k = m + 1 := ⟨k - 1, by omega⟩
    simp only [spec_l6Parts.l2]
    rw [if_neg (by omega), show i = up.length by omega]
    rfl
  | d + 1, k, i, hi, hk => by
    obtain ⟨k, rfl⟩ : ∃ m, k = m + 1 := ⟨k - 1, by omega⟩
    have hc := cntR_le up i
    have ih := parts_l2 m up hl hu d k (i + 1) (by omega) (by omega)
    rw [cntR_succ, P_rd] at ih
    simp only [spec_l6Parts.l2]
    rw [if_pos (by omega), if_pos (by omega), if_pos (by omega), bit_g, Option.bind_some, w_id (a := (i : Int) + 1) (by omega) (by omega), show ((i : Int) + 1) = ((i + 1 : Nat) : Int) by omega]
    by_cases h : rd up (i : Int) = (i : Int)
    · rw [if_pos (beq_iff_eq.2 h), w_id (by omega) (by omega)]
      rw [if_pos h] at ih
      rw [show ((cntR up i : Int) + 1) = ((cntR up i + 1 : Nat) : Int) by omega]
      exact ih
    · have hb : ¬ ((rd up (i : Int) == (i : Int)) = true) := fun e => h (beq_iff_eq.1 e)
      rw [if_neg hb, w_id (by omega) (by omega), Int.add_zero]
      rw [if_neg h, Nat.add_zero] at ih
      exact ih
/-- What is joined at a dart of a row. -/
def gq (m : List Int) (d : Nat) : List (Int × Int) := [((d : Int), m.getD d 0), ((d : Int), (mateN d : Int))]
theorem mp_l0 {m : List Int} (h2 : m.length ≤ 24) (he : m.length % 2 = 0) (hb : ∀ d, d < m.length → 0 ≤ m.getD d 0 ∧ m.getD d 0 < (m.length : Int)) : ∀ (d k i : Nat) (xs : List Int) (ps : List (Int × Int)), i + d = m.length → d + 60 < k → UF.Stands xs (m.length : Int) ps →
    ∃ ys, impl_MapParts.l0 k m xs (i : Int) = some ((UF.roots ys).length : Int) ∧ UF.Stands ys (m.length : Int) (ps ++ allP (gq m) d i)
  | 0, k, i, xs, ps, hi, hk, S => by
    obtain ⟨k, rfl⟩ : ∃ m, k = m + 1 := ⟨k - 1, by omega⟩
    have hl := S.len
    refine ⟨xs, ?_, by rw [allP, List.append_nil]; exact S⟩
    simp only [impl_MapParts.l0]
    rw [if_neg (by omega)]
    exact count_l0 xs (by omega) xs.length k 0 (by omega) (by omega)
  | d + 1, k, i, xs, ps, hi, hk, S => by
    obtain ⟨k, rfl⟩ : ∃ m, k = m + 1 := ⟨k - 1, by omega⟩
    have hl := S.len
    have hx : Go.bits .xor .i64 (i : Int) 1 = (mateN i : Int) := xor_eq ⟨i, by omega⟩
    have hm := mate_lt he (show i < m.length by omega)
    obtain ⟨ys, e1, S1⟩ := join_f S (a := (i : Int)) (b := m.getD i 0) ⟨by omega, by omega⟩ (hb i (by omega)) (m := k) (by omega)
    have hl1 := S1.len
    obtain ⟨zs, e2, S2⟩ := join_f S1 (a := (i : Int)) (b := (mateN i : Int)) ⟨by omega, by omega⟩ ⟨by omega, by omega⟩ (m := k) (by omega)
    obtain ⟨us, e3, S3⟩ := mp_l0 h2 he hb d k (i + 1) zs _ (by omega) (by omega) S2
    refine ⟨us, ?_, by rw [allP]; rw [List.append_assoc, List.append_assoc] at S3; exact S3⟩
    simp only [impl_MapParts.l0]
    rw [if_pos (by omega), if_pos (by omega), rdg, e1, Option.bind_some, hx, e2, Option.bind_some, w_id (by omega) (by omega), show ((i : Int) + 1) = ((i + 1 : Nat) : Int) by omega]
    exact e3
theorem sp_l1 {m : List Int} (h2 : m.length ≤ 24) (he : m.length % 2 = 0) (hb : ∀ d, d < m.length → 0 ≤ m.getD d 0 ∧ m.getD d 0 < (m.length : Int)) : ∀ (d k i : Nat) (xs : List Int) (ps : List (Int × Int)), i + d = m.length → d + 60 < k → UF.Stands xs (m.length : Int) ps →
    ∃ ys, spec_l6Parts.l1 k m xs (i : Int) = some ((UF.roots ys).length : Int) ∧ UF.Stands ys (m.length : Int) (ps ++ allP (gq m) d i)
  | 0, k, i, xs, ps, hi, hk, S => by
    obtain ⟨k, rfl⟩ : ∃ m, k = m + 1 := ⟨k - 1, by omega⟩
    have hl := S.len
    refine ⟨xs, ?_, by rw [allP, List.append_nil]; exact S⟩
    simp only [spec_l6Parts.l1]
    rw [if_neg (by omega)]
    exact parts_l2 m xs (by omega) (by omega) xs.length k 0 (by omega) (by omega)
  | d + 1, k, i, xs, ps, hi, hk, S => by
    obtain ⟨k, rfl⟩ : ∃ m, k = m + 1 := ⟨k - 1, by omega⟩
    have hl := S.len
    have hme : spec_l6Mate.f (i : Int) = some (mateN i : Int) := mate_eq ⟨i, by omega⟩
    have hm := mate_lt he (show i < m.length by omega)
    have hbi := hb i (by omega)
    have ra := S.ok.rt (i := (i : Int)) (by omega) (by omega)
    have rb := S.ok.rt hbi.1 (by omega)
    have ba := S.ok.bd ra (by omega) (by omega)
    have S1 := (S.join (a := (i : Int)) (b := m.getD i 0) ⟨by omega, by omega⟩ hbi ra rb).1
    have hl1 := S1.len
    have ra1 := S1.ok.rt (i := (i : Int)) (by omega) (by omega)
    have rb1 := S1.ok.rt (i := (mateN i : Int)) (by omega) (by omega)
    have ba1 := S1.ok.bd ra1 (by omega) (by omega)
    have S2 := (S1.join (a := (i : Int)) (b := (mateN i : Int)) ⟨by omega, by omega⟩ ⟨by omega, by omega⟩ ra1 rb1).1
    obtain ⟨us, e3, S3⟩ := sp_l1 h2 he hb d k (i + 1) _ _ (by omega) (by omega) S2
    refine ⟨us, ?_, by rw [allP]; rw [List.append_assoc, List.append_assoc] at S3; exact S3⟩
    simp only [spec_l6Parts.l1]
    rw [if_pos (by omega), find3_f S.ok (by omega) (by omega) (by omega), Option.bind_some, if_pos (by omega), rdg, find3_f S.ok hbi.1 (by omega) (by omega), Option.bind_some, if_pos ba.1, if_pos ba.2, Option.bind_some, find3_f S1.ok (by omega) (by omega) (by omega), Option.bind_some, hme, Option.bind_some, find3_f S1.ok (by omega) (by omega) (by omega), Option.bind_some, if_pos ba1.1, if_pos (by omega), w_id (by omega) (by omega), show ((i : Int) + 1) = ((i + 1 : Nat) : Int) by omega]
    exact e3
theorem sp_l0 {m : List Int} (h2 : m.length ≤ 24) : ∀ (d k i : Nat), i + d = m.length → d < k → spec_l6Parts.l0 k m (UF.alone i) (i : Int) = spec_l6Parts.l1 (k - d - 1) m (UF.alone m.length) 0
  | 0, k, i, hi, hk => by
    obtain ⟨k, rfl⟩ : ∃ m, k = m + 1 := ⟨k - 1, by omega⟩
    simp only [spec_l6Parts.l0]
    rw [if_neg (by omega), show i = m.length by omega, show k + 1 - 0 - 1 = k by omega]
  | d + 1, k, i, hi, hk => by
    obtain ⟨k, rfl⟩ : ∃ m, k = m + 1 := ⟨k - 1, by omega⟩
    simp only [spec_l6Parts.l0]
    rw [if_pos (by omega), if_pos (by rw [alone_len]; omega), w_id (by omega) (by omega), show ((i : Int) + 1) = ((i + 1 : Nat) : Int) by omega, ← alone_succ, sp_l0 h2 d k (i + 1) (by omega) (by omega), show k + 1 - (d + 1) - 1 = k - d - 1 by omega]
theorem roots_same {u1 u2 : List Int} {n : Int} {ps : List (Int × Int)} (h1 : UF.Stands u1 n ps) (h2 : UF.Stands u2 n ps) : (UF.roots u1).length = (UF.roots u2).length := by
  have := (UF.roots_perm h1 h2 (fun i j => Iff.rfl)).length_eq
  rwa [List.length_map] at this
theorem parts_f {m : List Int} (h1 : 2 ≤ m.length) (h2 : m.length ≤ 24) (he : m.length % 2 = 0) (hb : ∀ d, d < m.length → 0 ≤ m.getD d 0 ∧ m.getD d 0 < (m.length : Int)) (hmap : ∀ k, 30 < k → impl_IsMap.f k m = some true) (k : Nat) (hk : 200 < k) :
    ∃ c : Nat, spec_l6Parts.f k m = some (c : Int) ∧ impl_MapParts.f k m = some (c : Int) ∧ ∃ up, UF.Stands up (m.length : Int) (allP (gq m) m.length 0) ∧ c = (UF.roots up).length := by
  have S0 := UF.alone_stands m.length
  obtain ⟨ys, e1, S1⟩ := mp_l0 h2 he hb m.length k 0 _ _ (by omega) (by omega) S0
  obtain ⟨zs, e2, S2⟩ := sp_l1 h2 he hb m.length (k - m.length - 1) 0 _ _ (by omega) (by omega) S0
  rw [List.nil_append] at S1 S2
  refine ⟨(UF.roots ys).length, ?_, ?_, ys, S1, rfl⟩
  · unfold spec_l6Parts.f
    have := sp_l0 h2 m.length k 0 (by omega) (by omega)
    rw [show UF.alone 0 = [] from rfl] at this
    rw [show (0 : Int) = ((0 : Nat) : Int) from rfl, this, roots_same S1 S2]
    exact e2
  · unfold impl_MapParts.f
    rw [hmap k (by omega), Option.bind_some, if_pos rfl, newJoiner_f m.length (by omega) k (by omega), Option.bind_some]
    exact e1
theorem tdiv2 (a : Int) : ∃ r, -1 ≤ r ∧ r ≤ 1 ∧ 2 * Int.tdiv a 2 + r = a := by
  rcases Int.lt_or_le a 0 with h | h
  · have e : Int.tdiv a 2 = -(Int.tdiv (-a) 2) := by rw [Int.neg_tdiv, Int.neg_neg]
    rw [e, Int.tdiv_eq_ediv_of_nonneg (by omega)]
    exact ⟨a - 2 * -((-a) / 2), by omega, by omega, by omega⟩
  · rw [Int.tdiv_eq_ediv_of_nonneg h]
    exact ⟨a - 2 * (a / 2), by omega, by omega, by omega⟩
/-- The genus, in both, and no more than the number of letters. -/
theorem genus_f {w : List Int} (h : cw w = true) (s : Int) : ∃ g : Int, g ≤ w.length ∧ ∀ k, 250 < k → spec_l6Genus.f k (mapR w s) = some g ∧ impl_GenusOf.f k (mapR w s) = some g := by
  obtain ⟨hw, _⟩ := cw_true h
  have hl := mapR_len w s
  have pm : Pm (mapR w s) (nx w s) := ⟨by omega, by omega, fun d hd => mapR_at h s (by omega), fun d hd => by rw [hl] at hd ⊢; exact (nx_bd h s hd).1, fun d e hd he hn => nx_inj h s (by omega) (by omega) hn⟩
  have hev : (mapR w s).length % 2 = 0 := by omega
  have hb : ∀ d, d < (mapR w s).length → 0 ≤ (mapR w s).getD d 0 ∧ (mapR w s).getD d 0 < ((mapR w s).length : Int) := by
    intro d hd
    rw [pm.at_ d hd]
    have := pm.bd d hd
    omega
  have hb2 : ∀ d, d < (dualL (mapR w s)).length → 0 ≤ (dualL (mapR w s)).getD d 0 ∧ (dualL (mapR w s)).getD d 0 < ((dualL (mapR w s)).length : Int) := by
    intro d hd
    rw [getD_at hd, dualL_get _ hd, dualL_len]
    rw [dualL_len] at hd
    exact hb _ (mate_lt hev hd)
  have hmap := isMap_f pm hev
  obtain ⟨V, hV, cV⟩ := cycles_f pm.hi hb
  obtain ⟨F, hF, cF⟩ := cycles_f (m := dualL (mapR w s)) (by rw [dualL_len]; exact pm.hi) hb2
  have key : ∀ k, 250 < k → ∃ c : Nat, c ≤ 1 ∧ spec_l6Parts.f k (mapR w s) = some (c : Int) ∧ impl_MapParts.f k (mapR w s) = some (c : Int) := by
    intro k hk
    obtain ⟨c, c1, c2, up, S, ec⟩ := parts_f (by omega) pm.hi hev hb hmap k (by omega)
    have hq : allP (gq (mapR w s)) (mapR w s).length 0 = prs w s := by
      unfold prs
      rw [hl]
      have gen : ∀ (n i : Nat), i + n ≤ 2 * w.length → allP (gq (mapR w s)) n i = allP (gp w s) n i := by
        intro n
        induction n with
        | zero => intro i _; rfl
        | succ n ih =>
          intro i hi
          rw [allP, allP, ih (i + 1) (by omega)]
          unfold gq gp
          rw [mapR_at h s (by omega)]
      exact gen _ _ (by omega)
    rw [hq, hl, show ((2 * w.length : Nat) : Int) = 2 * (w.length : Int) by omega] at S
    exact ⟨c, by rw [ec]; exact one_root h s S, c1, c2⟩
  obtain ⟨c, hc, c1, c2⟩ := key 251 (by omega)
  have lift1 : ∀ k, 250 < k → spec_l6Parts.f k (mapR w s) = some (c : Int) := fun k hk => at_rounds (fun k => spec_l6Parts.mono (mapR w s) k) (by omega) c1
  have lift2 : ∀ k, 250 < k → impl_MapParts.f k (mapR w s) = some (c : Int) := fun k hk => at_rounds (fun k => impl_MapParts.mono (mapR w s) k) (by omega) c2
  obtain ⟨r, r1, r2, r3⟩ := tdiv2 ((V.length : Int) - w.length + F.length)
  have w1 : wrap64 (((mapR w s).length : Int) / 2) = (w.length : Int) := by rw [hl]; exact (w_id (by omega) (by omega)).trans (by omega)
  have w2 : wrap64 ((V.length : Int) - w.length) = (V.length : Int) - w.length := w_id (by omega) (by omega)
  have w3 : wrap64 ((V.length : Int) - w.length + F.length) = (V.length : Int) - w.length + F.length := w_id (by omega) (by omega)
  have w4 : wrap64 (Int.tdiv ((V.length : Int) - w.length + F.length) 2) = Int.tdiv ((V.length : Int) - w.length + F.length) 2 := by clear w1 w2 w3; exact w_id (by omega) (by omega)
  have w5 : wrap64 ((c : Int) - Int.tdiv ((V.length : Int) - w.length + F.length) 2) = (c : Int) - Int.tdiv ((V.length : Int) - w.length + F.length) 2 := by clear w1 w2 w3 w4; exact w_id (by omega) (by omega)
  refine ⟨(c : Int) - Int.tdiv ((V.length : Int) - w.length + F.length) 2, by clear w1 w2 w3 w4 w5; omega, fun k hk => ⟨?_, ?_⟩⟩
  · unfold spec_l6Genus.f
    rw [lift1 k hk, Option.bind_some, (cV k (by omega)).1, Option.bind_some, (dual_f pm.hi hev k (by omega)).1, Option.bind_some, (cF k (by omega)).1, Option.bind_some, w1, w2, w3, w4, w5]
  · unfold impl_GenusOf.f
    rw [hmap k (by omega), Option.bind_some, if_pos rfl, lift2 k hk, Option.bind_some, (cV k (by omega)).2, Option.bind_some, (dual_f pm.hi hev k (by omega)).2, Option.bind_some, (cF k (by omega)).2, Option.bind_some, w1, w2, w3, w4, w5]
end Go.Proofs.Ytfcdomcnkeeffaa.L

namespace Go.Proofs.Ytfcdomcnkeeffaa.L
open Go.RowKit Go.Proofs.Ytfcdomcnkeeffaa.P Go.Proofs.Ytfcdomcnkeeffaa.Help Go.Proofs.YtfcdomcnkeeffaaW.PrintWords Go.Proofs.YtfcdomcnkeeffaaW.PrintLast Go.Proofs.YtfcdomcnkeeffaaW.PrintMore
set_option linter.unusedVariables false
set_option linter.unusedSimpArgs false

/-- The genus of a set's map. -/
def gen (w : List Int) (s : Int) : Int := (impl_GenusOf.f 251 (mapR w s)).getD 0
theorem gen_f {w : List Int} (h : cw w = true) (s : Int) : gen w s ≤ w.length ∧ ∀ k, 250 < k → spec_l6Genus.f k (mapR w s) = some (gen w s) ∧ impl_GenusOf.f k (mapR w s) = some (gen w s) := by
  obtain ⟨g, hg, hk⟩ := genus_f h s
  have e : gen w s = g := by
    unfold gen
    rw [(hk 251 (by omega)).2]
    rfl
  rw [e]
  exact ⟨hg, hk⟩
theorem impl_cg_l0 {w : List Int} (h : cw w = true) : ∀ (d k i : Nat) (a : Int), i + d = 256 → d + 300 < k → impl_CurveGenus.l0 k w a (i : Int) = some (fmin a ((List.range' i d).map fun (s : Nat) => gen w (s : Int)))
  | 0, k, i, a, hi, hk => by
    obtain ⟨k, rfl⟩ : ∃ m, k = m + 1 := ⟨k - 1, by omega⟩
    simp only [impl_CurveGenus.l0]
    rw [if_neg (by omega)]
    rfl
  | d + 1, k, i, a, hi, hk => by
    obtain ⟨k, rfl⟩ : ∃ m, k = m + 1 := ⟨k - 1, by omega⟩
    simp only [impl_CurveGenus.l0]
    rw [if_pos (by omega), impl_map h (i : Int) k (by omega), Option.bind_some, ((gen_f h (i : Int)).2 k (by omega)).2, Option.bind_some, w_id (by omega) (by omega), show ((i : Int) + 1) = ((i + 1 : Nat) : Int) by omega, impl_cg_l0 h d k (i + 1) _ (by omega) (by omega), List.range'_succ, List.map_cons]
    rfl
/-- Is a set one of the word's letters? -/
def useR (w : List Int) (s : Int) : Nat → Nat → Bool → Bool
  | 0, _, b => b
  | n + 1, i, b => useR w s n (i + 1) (b && (decide (bitOf s (i : Int) = 0) || cnt w (i : Int) == 2))
theorem spec_cg_l1 {w : List Int} (h : cw w = true) (a s : Int) : ∀ (n k i : Nat) (b : Bool), i + n = 9 → 1 ≤ i → n + 40 < k → spec_CurveGenus.l1 k w a s b (i : Int) = spec_CurveGenus.l1 (k - n) w a s (useR w s n i b) 9
  | 0, k, i, b, hi, h1, hk => by
    rw [show i = 9 by omega, Nat.sub_zero]
    rfl
  | n + 1, k, i, b, hi, h1, hk => by
    obtain ⟨k, rfl⟩ : ∃ m, k = m + 1 := ⟨k - 1, by omega⟩
    obtain ⟨hw, _⟩ := cw_true h
    have e1 : wrap64 ((i : Int) - 1) = (i : Int) - 1 := w_id (by omega) (by omega)
    have e2 : IntKind.u64.wrap ((i : Int) - 1) = (i : Int) - 1 := u64_w (by omega) (by omega)
    have e3 : wrap64 ((i : Int) + 1) = ((i + 1 : Nat) : Int) := (w_id (by omega) (by omega)).trans (by omega)
    conv => lhs; simp only [spec_CurveGenus.l1]
    rw [if_pos (by omega), e1, e2, e3, useR, show k + 1 - (n + 1) = k - n by omega]
    cases b with
    | true =>
      rw [if_pos rfl, if_pos (by omega), Bool.true_and]
      show (if bitOf s (i : Int) = 0 then _ else _) = _
      by_cases hb : bitOf s (i : Int) = 0
      · rw [if_pos hb, decide_eq_true hb, Bool.true_or]
        exact spec_cg_l1 h a s n k (i + 1) true (by omega) (by omega) (by omega)
      · rw [if_neg hb, decide_eq_false hb, Bool.false_or, spec_count w (by omega) (cw_small h) (i : Int) k (by omega), Option.bind_some]
        exact spec_cg_l1 h a s n k (i + 1) _ (by omega) (by omega) (by omega)
    | false =>
      rw [if_neg (by decide), Bool.false_and]
      exact spec_cg_l1 h a s n k (i + 1) false (by omega) (by omega) (by omega)
def used (w : List Int) (s : Int) : Bool := useR w s 8 1 true
theorem spec_cg_l0 {w : List Int} (h : cw w = true) : ∀ (d k i : Nat) (a : Int), i + d = 256 → 10 * d + 400 < k → spec_CurveGenus.l0 k w a (i : Int) = some (fmin a (((List.range' i d).filter fun (s : Nat) => used w (s : Int)).map fun (s : Nat) => gen w (s : Int)))
  | 0, k, i, a, hi, hk => by
    obtain ⟨k, rfl⟩ : ∃ m, k = m + 1 := ⟨k - 1, by omega⟩
    simp only [spec_CurveGenus.l0]
    rw [if_neg (by omega)]
    rfl
  | d + 1, k, i, a, hi, hk => by
    obtain ⟨hw, _⟩ := cw_true h
    obtain ⟨k, rfl⟩ : ∃ m, k = m + 10 := ⟨k - 10, by omega⟩
    have e1 := spec_cg_l1 h a (i : Int) 8 (k + 9) 1 true (by omega) (by omega) (by omega)
    rw [show k + 10 = (k + 9) + 1 from rfl]
    conv => lhs; simp only [spec_CurveGenus.l0]
    rw [if_pos (by omega)]
    refine e1.trans ?_
    rw [show k + 9 - 8 = k + 1 by omega]
    conv => lhs; simp only [spec_CurveGenus.l1]
    rw [if_neg (by decide), List.range'_succ, w_id (a := (i : Int) + 1) (by omega) (by omega), show ((i : Int) + 1) = ((i + 1 : Nat) : Int) by omega]
    by_cases hu : used w (i : Int) = true
    · have hu' : useR w (i : Int) 8 1 true = true := hu
      rw [if_pos hu', spec_map w (i : Int) (by omega) k (by omega), Option.bind_some, ((gen_f h (i : Int)).2 k (by omega)).1, Option.bind_some]
      have em : spec_l1Min.f a (gen w (i : Int)) = some (if gen w (i : Int) < a then gen w (i : Int) else a) := by
        unfold spec_l1Min.f
        by_cases c : a < gen w (i : Int)
        · rw [if_pos c, if_neg (by omega)]
        · rw [if_neg c]
          by_cases c2 : gen w (i : Int) < a
          · rw [if_pos c2]
          · rw [if_neg c2]; congr 1; omega
      rw [em, Option.bind_some, spec_cg_l0 h d k (i + 1) _ (by omega) (by omega), List.filter_cons_of_pos (by exact hu), List.map_cons]
      rfl
    · have hu' : ¬ useR w (i : Int) 8 1 true = true := hu
      rw [if_neg hu', spec_cg_l0 h d k (i + 1) _ (by omega) (by omega), List.filter_cons_of_neg (by exact hu)]
theorem useR_false (w : List Int) (s : Int) : ∀ n i, useR w s n i false = false
  | 0, _ => rfl
  | n + 1, i => by
    rw [useR, Bool.false_and]
    exact useR_false w s n (i + 1)
theorem useR_all (w : List Int) (s : Int) : ∀ n i, (∀ x : Nat, i ≤ x → x < i + n → bitOf s (x : Int) = 0 ∨ cnt w (x : Int) = 2) → useR w s n i true = true
  | 0, _, _ => rfl
  | n + 1, i, h => by
    have e : (decide (bitOf s (i : Int) = 0) || cnt w (i : Int) == 2) = true := by
      rcases h i (by omega) (by omega) with a | a
      · rw [decide_eq_true a, Bool.true_or]
      · rw [a]; simp
    rw [useR, e, Bool.and_true]
    exact useR_all w s n (i + 1) (fun x h1 h2 => h x (by omega) (by omega))
theorem bit_low : ∀ a : Fin 16, ∀ b : Fin 16, Go.bits .and .i64 ((16 * (a : Nat) + (b : Nat) : Nat) : Int) 1 = (((16 * (a : Nat) + (b : Nat)) % 2 : Nat) : Int) := by decide +kernel
theorem shr_nat (s x : Nat) (hx : x < 8) : shr .i64 (s : Int) (((x + 1 : Nat) : Int) - 1) = ((s / 2 ^ x : Nat) : Int) := by
  have e : (((x + 1 : Nat) : Int) - 1).toNat = x := by omega
  have e2 : min x (IntKind.bits .i64) = x := Nat.min_eq_left (show x ≤ 64 by omega)
  unfold shr
  rw [e, e2, Int.natCast_ediv, Int.natCast_pow]
  rfl
theorem bit_nat {s x : Nat} (hs : s < 256) (hx : x < 8) : bitOf (s : Int) ((x + 1 : Nat) : Int) = if s.testBit x then 1 else 0 := by
  have hd : s / 2 ^ x ≤ s := Nat.div_le_self _ _
  unfold bitOf
  rw [shr_nat s x hx, Nat.testBit_eq_decide_div_mod_eq]
  generalize s / 2 ^ x = y at hd ⊢
  have := bit_low ⟨y / 16, by omega⟩ ⟨y % 16, by omega⟩
  dsimp only at this
  rw [show 16 * (y / 16) + y % 16 = y by omega] at this
  rw [this]
  by_cases h : y % 2 = 1
  · rw [decide_eq_true h, if_pos rfl, h]; rfl
  · rw [decide_eq_false h, if_neg (by decide), show y % 2 = 0 by omega]; rfl
theorem mask : ∀ (n : Nat) (f : Nat → Bool), ∃ U, U < 2 ^ n ∧ ∀ x, x < n → U.testBit x = f x
  | 0, f => ⟨0, by simp, fun x h => absurd h (by omega)⟩
  | n + 1, f => by
    obtain ⟨V, hV, h⟩ := mask n (fun x => f (x + 1))
    refine ⟨2 * V + (if f 0 = true then 1 else 0), ?_, ?_⟩
    · rw [Nat.pow_succ]
      split <;> omega
    · intro x hx
      match x with
      | 0 =>
        rw [Nat.testBit_zero]
        cases hf : f 0 with
        | true => rw [if_pos rfl]; exact decide_eq_true (by omega)
        | false => rw [if_neg (by decide)]; exact decide_eq_false (by omega)
      | x + 1 =>
        rw [Nat.testBit_succ, show (2 * V + (if f 0 = true then 1 else 0)) / 2 = V by split <;> omega]
        exact h x (by omega)
theorem fold_bits (w : List Int) (s t : Int) : ∀ (L m : List Int), (∀ x ∈ L, bitOf s x = bitOf t x) → L.foldl (crossM w s) m = L.foldl (crossM w t) m
  | [], m, _ => by rw [List.foldl_nil, List.foldl_nil]
  | x :: L, m, h => by
    have e : crossM w s m x = crossM w t m x := by
      unfold crossM
      rw [h x List.mem_cons_self]
    rw [List.foldl_cons, List.foldl_cons, e]
    exact fold_bits w s t L _ (fun y hy => h y (List.mem_cons_of_mem _ hy))
/-- Each set has a set of the word's letters with the same map. -/
theorem restrict {w : List Int} (h : cw w = true) {s : Nat} (hs : s < 256) : ∃ t : Nat, t < 256 ∧ used w (t : Int) = true ∧ gen w (t : Int) = gen w (s : Int) := by
  obtain ⟨U, hU, hb⟩ := mask 8 (fun x => decide (((x + 1 : Nat) : Int) ∈ w))
  have ht : s &&& U < 256 := Nat.lt_of_le_of_lt Nat.and_le_left hs
  have bt : ∀ x : Nat, x < 8 → bitOf ((s &&& U : Nat) : Int) ((x + 1 : Nat) : Int) = if s.testBit x && decide (((x + 1 : Nat) : Int) ∈ w) then 1 else 0 := by
    intro x hx
    have := bit_nat ht hx
    rw [Nat.testBit_and, hb x hx] at this
    exact this
  refine ⟨s &&& U, ht, useR_all w _ 8 1 (fun x h1 h2 => ?_), ?_⟩
  · obtain ⟨y, rfl⟩ : ∃ y, x = y + 1 := ⟨x - 1, by omega⟩
    have e := bt y (by omega)
    by_cases hm : ((y + 1 : Nat) : Int) ∈ w
    · exact .inr (cw_two h _ hm)
    · left
      rw [e, decide_eq_false hm, Bool.and_false]
      rfl
  · unfold gen
    congr 2
    unfold mapR
    rw [mapF_fold h, mapF_fold h]
    apply fold_bits
    intro x hx
    rw [← letters_tail h] at hx
    have hm := letters_mem h x hx
    have hx8 := ((cw_true h).2 x hm).1
    obtain ⟨y, rfl⟩ : ∃ y : Nat, x = ((y + 1 : Nat) : Int) := ⟨(x - 1).toNat, by omega⟩
    have e1 := bt y (by omega)
    have e2 := bit_nat hs (show y < 8 by omega)
    rw [decide_eq_true hm, Bool.and_true] at e1
    exact e1.trans e2.symm
theorem cg_eq {w : List Int} (h : cw w = true) (N : Nat) (hN : N = 256) : fmin 1000 ((List.range' 0 N).map fun (s : Nat) => gen w (s : Int)) = fmin (w.length : Int) (((List.range' 0 N).filter fun (s : Nat) => used w (s : Int)).map fun (s : Nat) => gen w (s : Int)) := by
  obtain ⟨hw, _⟩ := cw_true h
  have hm : ∀ s : Nat, s ∈ List.range' 0 N ↔ s < 256 := by
    intro s
    rw [List.mem_range'_1]
    omega
  apply fmin_eq
  · intro x
    constructor
    · intro hx
      obtain ⟨s, hs, rfl⟩ := List.mem_map.1 hx
      obtain ⟨t, ht, hu, e⟩ := restrict h ((hm s).1 hs)
      exact List.mem_map.2 ⟨t, List.mem_filter.2 ⟨(hm t).2 ht, hu⟩, e⟩
    · intro hx
      obtain ⟨s, hs, rfl⟩ := List.mem_map.1 hx
      exact List.mem_map.2 ⟨s, (List.mem_filter.1 hs).1, rfl⟩
  · intro x hx
    obtain ⟨s, hs, rfl⟩ := List.mem_map.1 hx
    have := (gen_f h (s : Int)).1
    omega
  · intro x hx
    obtain ⟨s, hs, rfl⟩ := List.mem_map.1 hx
    exact (gen_f h (s : Int)).1
  · exact ⟨_, List.mem_map.2 ⟨0, (hm 0).2 (by omega), rfl⟩⟩
def cgR (w : List Int) : Int := if cw w = true then fmin 1000 ((List.range' 0 256).map fun (s : Nat) => gen w (s : Int)) else -1
theorem impl_cg (w : List Int) (hx : w.length ≤ 1048576) (k : Nat) (hk : 1060000 < k) : impl_CurveGenus.f k w = some (cgR w) := by
  unfold impl_CurveGenus.f cgR
  rw [impl_cw w hx k (by omega), Option.bind_some]
  by_cases h : cw w = true
  · rw [if_pos h, if_pos h]
    exact impl_cg_l0 h 256 k 0 1000 (by omega) (by omega)
  · rw [if_neg h, if_neg h]
theorem spec_cg (w : List Int) (hx : w.length ≤ 1048576) (k : Nat) (hk : 1060000 < k) : spec_CurveGenus.f k w = some (cgR w) := by
  unfold spec_CurveGenus.f cgR
  rw [spec_cw w hx k (by omega), Option.bind_some]
  by_cases h : cw w = true
  · rw [if_pos h, if_pos h]
    rw [cg_eq h 256 rfl]
    exact spec_cg_l0 h 256 k 0 (w.length : Int) (by omega) (by omega)
  · rw [if_neg h, if_neg h]
end Go.Proofs.Ytfcdomcnkeeffaa.L

namespace Go.Proofs.Ytfcdomcnkeeffaa.L
open Go.RowKit Go.Proofs.Ytfcdomcnkeeffaa.P Go.Proofs.Ytfcdomcnkeeffaa.Help Go.Proofs.YtfcdomcnkeeffaaW.PrintWords
set_option linter.unusedVariables false
set_option linter.unusedSimpArgs false

theorem toIntS_l0 (xs : List Int) (hx : xs.length ≤ 1000000000000) : ∀ (d k i : Nat) (ys : List Int), i + d = xs.length → d < k → ys.length = xs.length → ys.take i = xs.take i → laws_toIntS.l0 k xs ys (i : Int) = some xs := by
  intro d
  induction d with
  | zero =>
    intro k i ys hi hk hl ht
    obtain ⟨k, rfl⟩ : ∃ m, k = m + 1 := ⟨k - 1, by omega⟩
    simp only [laws_toIntS.l0]
    rw [if_neg (by omega)]
    rw [List.take_of_length_le (by omega), List.take_of_length_le (by omega)] at ht
    rw [ht]
  | succ d ih =>
    intro k i ys hi hk hl ht
    obtain ⟨k, rfl⟩ : ∃ m, k = m + 1 := ⟨k - 1, by omega⟩
    simp only [laws_toIntS.l0]
    rw [if_pos (by omega), if_pos (by omega), if_pos (by omega), w_id (by omega) (by omega), show ((i : Int) + 1) = ((i + 1 : Nat) : Int) by omega, Int.toNat_natCast, rd_nat xs i (by omega)]
    refine ih k (i + 1) _ (by omega) (by omega) (by rw [List.length_set]; exact hl) ?_
    rw [List.take_succ_eq_append_getElem (by rw [List.length_set]; omega), List.take_succ_eq_append_getElem (by omega), List.getElem_set_self, List.take_set_of_le (by omega), ht]
theorem toIntS_f (xs : List Int) (hx : xs.length ≤ 1048576) (k : Nat) (hk : 1048576 < k) : laws_toIntS.f k xs = some xs := by
  unfold laws_toIntS.f
  rw [if_pos (by omega), if_pos (by omega), Int.toNat_natCast]
  exact toIntS_l0 xs (by omega) xs.length k 0 _ (by omega) (by omega) (by simp) (by simp)
theorem eqIntS_l0 (xs : List Int) (hx : xs.length ≤ 1000000000000) : ∀ (d k i : Nat), i + d = xs.length → d < k → laws_eqIntS.l0 k xs xs (i : Int) = some true := by
  intro d
  induction d with
  | zero =>
    intro k i hi hk
    obtain ⟨k, rfl⟩ : ∃ m, k = m + 1 := ⟨k - 1, by omega⟩
    simp only [laws_eqIntS.l0]
    rw [if_neg (by omega)]
  | succ d ih =>
    intro k i hi hk
    obtain ⟨k, rfl⟩ : ∃ m, k = m + 1 := ⟨k - 1, by omega⟩
    simp only [laws_eqIntS.l0]
    rw [if_pos (by omega), if_pos (by omega), if_pos (by omega)]
    simp only [if_true]
    rw [w_id (by omega) (by omega), show ((i : Int) + 1) = ((i + 1 : Nat) : Int) by omega, ih k (i + 1) (by omega) (by omega)]
theorem eqIntS_self (xs : List Int) (hx : xs.length ≤ 1048576) (k : Nat) (hk : 1048576 < k) : laws_eqIntS.f k xs xs = some true := by
  unfold laws_eqIntS.f
  rw [if_pos rfl]
  exact eqIntS_l0 xs (by omega) xs.length k 0 (by omega) (by omega)
end Go.Proofs.Ytfcdomcnkeeffaa.L

namespace Go.Proofs.Ytfcdomcnkeeffaa.Pure
open Go.RowKit Go.Proofs.Ytfcdomcnkeeffaa.P Go.Proofs.Ytfcdomcnkeeffaa.Help Go.Proofs.Ytfcdomcnkeeffaa.L
theorem FnExactIsPlanarWord : ∀ (l0 : List Int), l0.length ≤ 9223372036854775807 → (∀ x ∈ l0, I64 x) → ∃ k, laws_FnExactIsPlanarWord.f k l0 = some true := by
  intro x _ _
  refine ⟨10000001, ?_⟩
  unfold laws_FnExactIsPlanarWord.f
  by_cases hx : (x.length : Int) > 1048576
  · rw [if_pos hx]
  · have hxl : x.length ≤ 1048576 := by omega
    have g1 := spec_cg x hxl 10000001 (by decide)
    have g2 := impl_cg x hxl 10000001 (by decide)
    have a0 := toIntS_f x hxl 10000001 (by decide)
    have a2 := eqIntS_self x hxl 10000001 (by decide)
    unfold spec_IsPlanarWord.f impl_IsPlanarWord.f
    rw [if_neg hx, a0, Option.bind_some, g1, Option.bind_some, Option.bind_some, Option.bind_some, g2, Option.bind_some, Option.bind_some, bne_self_eq_false, if_neg (by decide), Option.bind_some, a2, Option.bind_some, if_pos rfl]
end Go.Proofs.Ytfcdomcnkeeffaa.Pure
