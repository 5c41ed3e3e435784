/- FnGauss in plain Lean: for each code the law's functions answer as it wants: words of crossings of at most ten places. No condition. -/
import Derived.Test.YtkmjcdlhlhefdaaQPx0
import Derived.Test.YtkmjcdlhlhefdaaQHelp
import Derived.Test.YtkmjcdlhlhefdaaQPx2
import Derived.Test.YtkmjcdlhlhefdaaQPx10
import Derived.Test.YtkmjcdlhlhefdaaQPx5
import Derived.Test.YtkmjcdlhlhefdaaQPx12
import Derived.Test.YtkmjcdlhlhefdaaQPx8
import Derived.Test.YtkmjcdlhlhefdaaQPx9
import Derived.Test.YtkmjcdlhlhefdaaQPx16
import Derived.Test.YtkmjcdlhlhefdaaQPx22
import Derived.Test.YtkmjcdlhlhefdaaQPx17
import Derived.Test.YtkmjcdlhlhefdaaQPx23
import Derived.Test.YtkmjcdlhlhefdaaQPx13
import Derived.Test.YtkmjcdlhlhefdaaQPx14
import Derived.Test.YtkmjcdlhlhefdaaQPx15
import Derived.Test.YtkmjcdlhlhefdaaQPx6
import Derived.Test.YtkmjcdlhlhefdaaQPx19
import Derived.Test.YtkmjcdlhlhefdaaQPx7
import Derived.Test.YtkmjcdlhlhefdaaQPx20
import Derived.Test.YtkmjcdlhlhefdaaQPx21
import Derived.Test.YtkmjcdlhlhefdaaQPx18
import Derived.Test.YtkmjcdlhlhefdaaQPx24
import Derived.Test.YtkmjcdlhlhefdaaQPx1
import Derived.Test.YtkmjcdlhlhefdaaQPx25
import Derived.Test.YtkmjcdlhlhefdaaQPx26
import Derived.Test.YtkmjcdlhlhefdaaQPx28

namespace Go.Proofs.Ytkmjcdlhlhefdaa.L
open Go.RowKit Go.Proofs.Ytkmjcdlhlhefdaa.P Go.Proofs.Ytkmjcdlhlhefdaa.Help Go.Proofs.YtkmjcdlhlhefdaaW.PrintWords
set_option linter.unusedVariables false
set_option linter.unusedSimpArgs false

theorem w_id {a : Int} (h0 : -9223372036854775808 ≤ a) (h1 : a ≤ 9223372036854775807) : wrap64 a = a := by unfold wrap64; omega
theorem rd_nat (xs : List Int) (i : Nat) (h : i < xs.length) : rd xs (i : Int) = xs[i] := by
 unfold rd
 simp [List.getD_eq_getElem?_getD, List.getElem?_eq_getElem h]
end Go.Proofs.Ytkmjcdlhlhefdaa.L

namespace Go.Proofs.Ytkmjcdlhlhefdaa.L
open Go.RowKit Go.Proofs.Ytkmjcdlhlhefdaa.P Go.Proofs.Ytkmjcdlhlhefdaa.Help Go.Proofs.YtkmjcdlhlhefdaaW.PrintWords
set_option linter.unusedVariables false
set_option linter.unusedSimpArgs false

theorem l1In_eq (a lo hi : Int) : spec_l1In.f a lo hi = some (decide (lo ≤ a ∧ a ≤ hi)) := by
 unfold spec_l1In.f
 by_cases h : lo ≤ a <;> simp [h]
theorem within_eq (a lo hi : Int) : impl_within.f a lo hi = some (decide (lo ≤ a ∧ a ≤ hi)) := by
 unfold impl_within.f
 by_cases h : lo ≤ a <;> simp [h]
end Go.Proofs.Ytkmjcdlhlhefdaa.L

namespace Go.Proofs.Ytkmjcdlhlhefdaa.L
open Go.RowKit Go.Proofs.Ytkmjcdlhlhefdaa.P Go.Proofs.Ytkmjcdlhlhefdaa.Help Go.Proofs.YtkmjcdlhlhefdaaW.PrintWords
set_option linter.unusedVariables false
set_option linter.unusedSimpArgs false

theorem l3AbsW {a : Int} (h0 : -8 ≤ a) (h1 : a ≤ 8) : spec_l3Abs.f a = some (a.natAbs : Int) := by
 unfold spec_l3Abs.f spec_l1Max.f
 rw [w_id (by omega) (by omega)]
 by_cases h : a > -a
 ·rw [if_pos h]; simp only [Option.bind_some]; congr 1; omega
 ·rw [if_neg h]; simp only [Option.bind_some]; congr 1; omega
theorem sizeW {a : Int} (h0 : -8 ≤ a) (h1 : a ≤ 8) : impl_size.f a = some (a.natAbs : Int) := by
 unfold impl_size.f
 rw [w_id (by omega) (by omega)]
 congr 1
 unfold mx
 split <;> omega
def letB (x : Int) : Bool := decide (x ≠ 0 ∧ -8 ≤ x ∧ x ≤ 8)
theorem letB_true {x : Int} (h : letB x = true) : x ≠ 0 ∧ -8 ≤ x ∧ x ≤ 8 := of_decide_eq_true h
theorem spec_letter (x : Int) : spec_l2Letter.f x = some (letB x) := by
 unfold spec_l2Letter.f letB
 rw [l1In_eq, l1In_eq, Option.bind_some, Option.bind_some]
 by_cases h : 1 ≤ x ∧ x ≤ 8
 ·rw [if_pos (decide_eq_true h)]
  congr 1
  symm
  rw [decide_eq_true_iff]
  omega
 ·rw [if_neg (by simpa using h)]
  congr 1
  rw [decide_eq_decide]
  omega
theorem impl_letter (x : Int) : impl_isLetter.f x = some (letB x) := by
 unfold impl_isLetter.f letB
 rw [within_eq, Option.bind_some]
 by_cases h : x = 0
 ·rw [if_pos h]; simp [h]
 ·rw [if_neg h]
  simp [h]
/-- A word. -/
def isW (w : List Int) : Bool := w.all letB && decide (w.length ≤ 24)
theorem spec_isW_l0 (xs : List Int) (hx : xs.length ≤ 1000000000000) : ∀ (d k i : Nat), i + d = xs.length → d < k → spec_IsWord.l0 k xs (i : Int) = some ((xs.drop i).all letB && decide (xs.length ≤ 24)) := by
 intro d
 induction d with
 | zero =>
  intro k i hi hk
  obtain ⟨k, rfl⟩ : ∃ m, k = m + 1 := ⟨k - 1, by omega⟩
  simp only [spec_IsWord.l0]
  rw [if_neg (by omega), List.drop_of_length_le (by omega)]
  simp
  omega
 | succ d ih =>
  intro k i hi hk
  obtain ⟨k, rfl⟩ : ∃ m, k = m + 1 := ⟨k - 1, by omega⟩
  have hlt : i < xs.length := by omega
  simp only [spec_IsWord.l0]
  rw [if_pos (by omega), if_pos (by omega), spec_letter, Option.bind_some, w_id (by omega) (by omega), show ((i : Int) + 1) = ((i + 1 : Nat) : Int) by omega, ih k (i + 1) (by omega) (by omega), List.drop_eq_getElem_cons hlt, List.all_cons, rd_nat xs i hlt]
  by_cases h : letB xs[i] = true <;> simp [h]
theorem impl_isW_l0 (xs : List Int) (hx : xs.length ≤ 1000000000000) : ∀ (d k i : Nat), i + d = xs.length → d < k → impl_IsWord.l0 k xs xs (xs.length : Int) (i : Int) = some ((xs.drop i).all letB && decide (xs.length ≤ 24)) := by
 intro d
 induction d with
 | zero =>
  intro k i hi hk
  obtain ⟨k, rfl⟩ : ∃ m, k = m + 1 := ⟨k - 1, by omega⟩
  simp only [impl_IsWord.l0]
  rw [if_neg (by omega), List.drop_of_length_le (by omega)]
  simp
  omega
 | succ d ih =>
  intro k i hi hk
  obtain ⟨k, rfl⟩ : ∃ m, k = m + 1 := ⟨k - 1, by omega⟩
  have hlt : i < xs.length := by omega
  simp only [impl_IsWord.l0]
  rw [if_pos (by omega), if_pos (by omega), if_pos (by omega), impl_letter, Option.bind_some, w_id (by omega) (by omega), show ((i : Int) + 1) = ((i + 1 : Nat) : Int) by omega, ih k (i + 1) (by omega) (by omega), List.drop_eq_getElem_cons hlt, List.all_cons, rd_nat xs i hlt]
  by_cases h : letB xs[i] = true <;> simp [h]
theorem spec_isW (xs : List Int) (hx : xs.length ≤ 1048576) (k : Nat) (hk : 1048576 < k) : spec_IsWord.f k xs = some (isW xs) := by
 unfold spec_IsWord.f
 have := spec_isW_l0 xs (by omega) xs.length k 0 (by omega) (by omega)
 rw [List.drop_zero] at this
 exact this
theorem impl_isW (xs : List Int) (hx : xs.length ≤ 1048576) (k : Nat) (hk : 1048576 < k) : impl_IsWord.f k xs = some (isW xs) := by
 unfold impl_IsWord.f
 have := impl_isW_l0 xs (by omega) xs.length k 0 (by omega) (by omega)
 rw [List.drop_zero] at this
 exact this
theorem isW_true {w : List Int} (h : isW w = true) : (∀ x ∈ w, x ≠ 0 ∧ -8 ≤ x ∧ x ≤ 8) ∧ w.length ≤ 24 := by
 unfold isW at h
 rw [Bool.and_eq_true, List.all_eq_true, decide_eq_true_iff] at h
 exact ⟨fun x hx => letB_true (h.1 x hx), h.2⟩
/-- How often a letter occurs, counting inverses. -/
def cnt : List Int → Int → Int
 | [], _ => 0
 | y :: ys, x => (if (y.natAbs : Int) = x then 1 else 0) + cnt ys x
theorem cnt_bd : ∀ (w : List Int) (x : Int), 0 ≤ cnt w x ∧ cnt w x ≤ w.length
 | [], _ => by simp [cnt]
 | y :: ys, x => by
  have := cnt_bd ys x
  rw [cnt, List.length_cons]
  split <;> omega
theorem cnt_append : ∀ (v w : List Int) (x : Int), cnt (v ++ w) x = cnt v x + cnt w x
 | [], w, x => by simp [cnt]
 | y :: ys, w, x => by
  rw [List.cons_append, cnt, cnt, cnt_append ys w x]
  omega
theorem cnt_ne : ∀ (w : List Int) (x : Int), cnt w x ≠ 0 ↔ ∃ y ∈ w, (y.natAbs : Int) = x
 | [], x => by simp [cnt]
 | y :: ys, x => by
  have ih := cnt_ne ys x
  have hb := cnt_bd ys x
  rw [cnt]
  by_cases h : (y.natAbs : Int) = x
  ·rw [if_pos h]
   constructor
   ·intro _; exact ⟨y, List.mem_cons_self, h⟩
   ·intro _; omega
  ·rw [if_neg h, Int.zero_add, ih]
   constructor
   ·rintro ⟨z, hz, e⟩; exact ⟨z, List.mem_cons_of_mem _ hz, e⟩
   ·rintro ⟨z, hz, e⟩
    rcases List.mem_cons.1 hz with rfl | hz
    ·exact absurd e h
    ·exact ⟨z, hz, e⟩
theorem spec_count_l0 (xs : List Int) (hx : xs.length ≤ 1000000) (hl : ∀ y ∈ xs, -8 ≤ y ∧ y ≤ 8) (x : Int) : ∀ (d k i : Nat) (n : Int), i + d = xs.length → d < k → 0 ≤ n → n ≤ 1000000000 - d → spec_l5Count.l0 k xs x n (i : Int) = some (n + cnt (xs.drop i) x) := by
 intro d
 induction d with
 | zero =>
  intro k i n hi hk h0 h1
  obtain ⟨k, rfl⟩ : ∃ m, k = m + 1 := ⟨k - 1, by omega⟩
  simp only [spec_l5Count.l0]
  rw [if_neg (by omega), List.drop_of_length_le (by omega)]
  simp [cnt]
 | succ d ih =>
  intro k i n hi hk h0 h1
  obtain ⟨k, rfl⟩ : ∃ m, k = m + 1 := ⟨k - 1, by omega⟩
  have hlt : i < xs.length := by omega
  have hb := hl xs[i] (List.getElem_mem hlt)
  simp only [spec_l5Count.l0]
  rw [if_pos (by omega), if_pos (by omega), rd_nat xs i hlt, l3AbsW hb.1 hb.2, Option.bind_some, List.drop_eq_getElem_cons hlt, cnt]
  unfold spec_l1Bit.f
  by_cases h : (xs[i].natAbs : Int) = x
  ·rw [if_pos (by simpa using h), if_pos h, Option.bind_some, w_id (a := n + 1) (by omega) (by omega), w_id (by omega) (by omega), show ((i : Int) + 1) = ((i + 1 : Nat) : Int) by omega, ih k (i + 1) (n + 1) (by omega) (by omega) (by omega) (by omega)]
   congr 1
   omega
  ·rw [if_neg (by simpa using h), if_neg h, Option.bind_some, w_id (a := n + 0) (by omega) (by omega), w_id (by omega) (by omega), show ((i : Int) + 1) = ((i + 1 : Nat) : Int) by omega, ih k (i + 1) (n + 0) (by omega) (by omega) (by omega) (by omega)]
   congr 1
   omega
theorem spec_count (xs : List Int) (hx : xs.length ≤ 24) (hl : ∀ y ∈ xs, -8 ≤ y ∧ y ≤ 8) (x : Int) (k : Nat) (hk : 24 < k) : spec_l5Count.f k xs x = some (cnt xs x) := by
 unfold spec_l5Count.f
 have := spec_count_l0 xs (by omega) hl x xs.length k 0 0 (by omega) (by omega) (by omega) (by omega)
 rw [List.drop_zero, Int.zero_add] at this
 exact this
/-- How often each letter from 0 to 8 occurs. -/
def cl (w : List Int) : List Int := (List.range 9).map fun (i : Nat) => cnt w (i : Int)
theorem cl_len (w : List Int) : (cl w).length = 9 := by simp [cl]
theorem cl_get (w : List Int) (i : Nat) (h : i < (cl w).length) : (cl w)[i] = cnt w (i : Int) := by simp [cl]
theorem cl_step (w : List Int) (y : Int) (hy : -8 ≤ y ∧ y ≤ 8) : (cl w).set y.natAbs (cnt w (y.natAbs : Int) + 1) = cl (w ++ [y]) := by
 apply List.ext_getElem
 ·rw [List.length_set, cl_len, cl_len]
 ·intro i h1 h2
  rw [List.getElem_set, cl_get, cl_get, cnt_append]
  simp only [cnt]
  by_cases h : y.natAbs = i
  ·rw [if_pos h, if_pos (by omega), h]
   omega
  ·rw [if_neg h, if_neg (by omega)]
   omega
theorem letterCounts_l1 (w : List Int) (hx : w.length ≤ 1000000) (hl : ∀ y ∈ w, -8 ≤ y ∧ y ≤ 8) : ∀ (d k i : Nat), i + d = w.length → d + 3 < k → impl_letterCounts.l1 k (cl (w.take i)) [w] 1 0 w (w.length : Int) (i : Int) = some (cl w) := by
 intro d
 induction d with
 | zero =>
  intro k i hi hk
  obtain ⟨k, rfl⟩ : ∃ m, k = m + 2 := ⟨k - 2, by omega⟩
  simp only [impl_letterCounts.l1, impl_letterCounts.l0]
  rw [if_neg (by omega), w_id (by omega) (by omega), if_neg (by omega), List.take_of_length_le (by omega)]
 | succ d ih =>
  intro k i hi hk
  obtain ⟨k, rfl⟩ : ∃ m, k = m + 1 := ⟨k - 1, by omega⟩
  have hlt : i < w.length := by omega
  have hb := hl w[i] (List.getElem_mem hlt)
  have hr : rd (cl (w.take i)) (w[i].natAbs : Int) = cnt (w.take i) (w[i].natAbs : Int) := by
   rw [rd_nat _ _ (by rw [cl_len]; omega), cl_get]
  have hcb := cnt_bd (w.take i) (w[i].natAbs : Int)
  rw [List.length_take] at hcb
  simp only [impl_letterCounts.l1]
  rw [if_pos (by omega), if_pos (by omega), if_pos (by omega), rd_nat w i hlt, sizeW hb.1 hb.2, Option.bind_some, cl_len, if_pos (by omega), if_pos (by omega), hr, Int.toNat_natCast, w_id (a := cnt (w.take i) (w[i].natAbs : Int) + 1) (by omega) (by omega), cl_step _ _ hb, w_id (by omega) (by omega), show ((i : Int) + 1) = ((i + 1 : Nat) : Int) by omega]
  have := ih k (i + 1) (by omega) (by omega)
  rw [List.take_succ_eq_append_getElem hlt] at this
  exact this
theorem crossings_eq (w : List Int) (hx : w.length ≤ 24) (hl : ∀ y ∈ w, -8 ≤ y ∧ y ≤ 8) (k : Nat) (hk : 40 < k) : impl_crossings.f k w = some (cl w) := by
 unfold impl_crossings.f impl_letterCounts.f
 rw [if_pos (by decide)]
 obtain ⟨k, rfl⟩ : ∃ m, k = m + 1 := ⟨k - 1, by omega⟩
 simp only [impl_letterCounts.l0, List.length_singleton]
 rw [if_pos (by decide), if_pos (by decide), if_pos (by decide)]
 have h : impl_letterCounts.l1 k (cl (w.take 0)) [w] 1 0 w (w.length : Int) 0 = some (cl w) := letterCounts_l1 w (by omega) hl w.length k 0 (by omega) (by omega)
 rw [show rd_L1 [w] 0 = w from rfl]
 rw [show (List.replicate 9 (0 : Int)) = cl (w.take 0) from by rw [List.take_zero]; rfl]
 rw [show (((1 : Nat) : Int)) = 1 from rfl, h]
 rfl
/-- A crossing word. -/
def cw (w : List Int) : Bool := isW w && decide (2 ≤ w.length ∧ w.length ≤ 12) && w.all (fun x => decide (1 ≤ x ∧ cnt w x = 2))
theorem cw_true {w : List Int} (h : cw w = true) : (2 ≤ w.length ∧ w.length ≤ 12) ∧ ∀ x ∈ w, (1 ≤ x ∧ x ≤ 8) ∧ cnt w x = 2 := by
 unfold cw at h
 rw [Bool.and_eq_true, Bool.and_eq_true, decide_eq_true_iff, List.all_eq_true] at h
 obtain ⟨⟨h1, h2⟩, h3⟩ := h
 obtain ⟨h4, _⟩ := isW_true h1
 refine ⟨h2, fun x hx => ?_⟩
 have := of_decide_eq_true (h3 x hx)
 have := h4 x hx
 omega
theorem cw_small {w : List Int} (h : cw w = true) : ∀ x ∈ w, -8 ≤ x ∧ x ≤ 8 := fun x hx => by have := (cw_true h).2 x hx; omega
theorem spec_cw_l0 (w : List Int) (hx : w.length ≤ 24) (hl : ∀ y ∈ w, -8 ≤ y ∧ y ≤ 8) : ∀ (d k i : Nat), i + d = w.length → d + 30 < k → spec_IsCrossingWord.l0 k w (i : Int) = some ((w.drop i).all (fun x => decide (1 ≤ x ∧ cnt w x = 2))) := by
 intro d
 induction d with
 | zero =>
  intro k i hi hk
  obtain ⟨k, rfl⟩ : ∃ m, k = m + 1 := ⟨k - 1, by omega⟩
  simp only [spec_IsCrossingWord.l0]
  rw [if_neg (by omega), List.drop_of_length_le (by omega)]
  rfl
 | succ d ih =>
  intro k i hi hk
  obtain ⟨k, rfl⟩ : ∃ m, k = m + 1 := ⟨k - 1, by omega⟩
  have hlt : i < w.length := by omega
  simp only [spec_IsCrossingWord.l0]
  rw [if_pos (by omega), if_pos (by omega), rd_nat w i hlt, List.drop_eq_getElem_cons hlt, List.all_cons, spec_count w hx hl _ k (by omega), Option.bind_some]
  by_cases h : w[i] < 1
  ·rw [if_pos h, decide_eq_false (by omega)]
   rfl
  ·rw [if_neg h]
   by_cases h2 : cnt w w[i] = 2
   ·rw [if_pos h2, decide_eq_true ⟨by omega, h2⟩, w_id (by omega) (by omega), show ((i : Int) + 1) = ((i + 1 : Nat) : Int) by omega, ih k (i + 1) (by omega) (by omega)]
    rfl
   ·rw [if_neg h2, decide_eq_false (fun h => h2 h.2)]
    rfl
theorem spec_cw (w : List Int) (hx : w.length ≤ 1048576) (k : Nat) (hk : 1048577 < k) : spec_IsCrossingWord.f k w = some (cw w) := by
 obtain ⟨k, rfl⟩ : ∃ m, k = m + 1 := ⟨k - 1, by omega⟩
 unfold spec_IsCrossingWord.f cw
 rw [spec_isW w hx (k + 1) (by omega), l1In_eq, Option.bind_some, Option.bind_some]
 simp only [spec_IsCrossingWord.j0, if_true]
 by_cases h : isW w = true
 ·rw [if_pos h]
  obtain ⟨h1, h2⟩ := isW_true h
  by_cases h3 : 2 ≤ w.length ∧ w.length ≤ 12
  ·rw [if_neg (by simp; omega)]
   have := spec_cw_l0 w h2 (fun y hy => by have := h1 y hy; omega) w.length k 0 (by omega) (by omega)
   rw [List.drop_zero] at this
   rw [show ((0 : Int)) = ((0 : Nat) : Int) from rfl, this, h, decide_eq_true h3]
   rfl
  ·rw [if_pos (by simp; omega), decide_eq_false h3]
   simp
 ·rw [if_neg h, Bool.eq_false_iff.2 h]
  rfl
theorem impl_cw_l1 (w : List Int) (hx : w.length ≤ 24) : ∀ (d k i : Nat), i + d = w.length → d < k → impl_IsCrossingWord.l1 k w (w.length : Int) (i : Int) = some ((w.drop i).all (fun x => decide (1 ≤ x))) := by
 intro d
 induction d with
 | zero =>
  intro k i hi hk
  obtain ⟨k, rfl⟩ : ∃ m, k = m + 1 := ⟨k - 1, by omega⟩
  simp only [impl_IsCrossingWord.l1]
  rw [if_neg (by omega), List.drop_of_length_le (by omega)]
  rfl
 | succ d ih =>
  intro k i hi hk
  obtain ⟨k, rfl⟩ : ∃ m, k = m + 1 := ⟨k - 1, by omega⟩
  have hlt : i < w.length := by omega
  simp only [impl_IsCrossingWord.l1]
  rw [if_pos (by omega), if_pos (by omega), if_pos (by omega), rd_nat w i hlt, List.drop_eq_getElem_cons hlt, List.all_cons]
  by_cases h : w[i] < 1
  ·rw [if_pos h, decide_eq_false (by omega)]
   rfl
  ·rw [if_neg h, decide_eq_true (by omega), w_id (by omega) (by omega), show ((i : Int) + 1) = ((i + 1 : Nat) : Int) by omega, ih k (i + 1) (by omega) (by omega)]
   rfl
theorem impl_cw_l0 (w : List Int) (hx : w.length ≤ 24) : ∀ (d k i : Nat), i + d = 9 → d + 30 < k → impl_IsCrossingWord.l0 k w (cl w) 9 (i : Int) = some (((cl w).drop i).all (fun c => decide (c = 0 ∨ c = 2)) && w.all (fun x => decide (1 ≤ x))) := by
 intro d
 induction d with
 | zero =>
  intro k i hi hk
  obtain ⟨k, rfl⟩ : ∃ m, k = m + 1 := ⟨k - 1, by omega⟩
  simp only [impl_IsCrossingWord.l0]
  rw [if_neg (by omega), List.drop_of_length_le (by rw [cl_len]; omega)]
  have := impl_cw_l1 w hx w.length k 0 (by omega) (by omega)
  rw [List.drop_zero] at this
  rw [show ((0 : Int)) = ((0 : Nat) : Int) from rfl, this]
  rfl
 | succ d ih =>
  intro k i hi hk
  obtain ⟨k, rfl⟩ : ∃ m, k = m + 1 := ⟨k - 1, by omega⟩
  have hlt : i < (cl w).length := by rw [cl_len]; omega
  simp only [impl_IsCrossingWord.l0]
  rw [if_pos (by omega), if_pos (by omega), if_pos (by rw [cl_len]; omega), rd_nat _ i hlt, List.drop_eq_getElem_cons hlt, List.all_cons, w_id (by omega) (by omega), show ((i : Int) + 1) = ((i + 1 : Nat) : Int) by omega, ih k (i + 1) (by omega) (by omega)]
  by_cases h : (cl w)[i] = 0
  ·rw [if_pos h, decide_eq_true (.inl h)]
   rfl
  ·rw [if_neg h]
   by_cases h2 : (cl w)[i] = 2
   ·rw [if_pos h2, decide_eq_true (.inr h2)]
    rfl
   ·rw [if_neg h2, decide_eq_false (by omega)]
    rfl
theorem cw_iff (w : List Int) (hw : ∀ x ∈ w, x ≠ 0 ∧ -8 ≤ x ∧ x ≤ 8) : ((cl w).all (fun c => decide (c = 0 ∨ c = 2)) && w.all (fun x => decide (1 ≤ x))) = w.all (fun x => decide (1 ≤ x ∧ cnt w x = 2)) := by
 rw [Bool.eq_iff_iff, Bool.and_eq_true, List.all_eq_true, List.all_eq_true, List.all_eq_true]
 constructor
 ·rintro ⟨h1, h2⟩ x hx
  have h3 := of_decide_eq_true (h2 x hx)
  have h4 := hw x hx
  have h5 : cnt w x ∈ cl w := by
   unfold cl
   rw [List.mem_map]
   exact ⟨x.toNat, List.mem_range.2 (by omega), by rw [Int.toNat_of_nonneg (by omega)]⟩
  have h6 := of_decide_eq_true (h1 _ h5)
  have h7 := (cnt_ne w x).2 ⟨x, hx, by omega⟩
  exact decide_eq_true (by omega)
 ·intro h
  have h1 : ∀ x ∈ w, 1 ≤ x ∧ cnt w x = 2 := fun x hx => of_decide_eq_true (h x hx)
  refine ⟨fun c hc => ?_, fun x hx => decide_eq_true (h1 x hx).1⟩
  unfold cl at hc
  obtain ⟨i, _, rfl⟩ := List.mem_map.1 hc
  refine decide_eq_true ?_
  by_cases h0 : cnt w (i : Int) = 0
  ·exact .inl h0
  ·obtain ⟨y, hy, e⟩ := (cnt_ne w _).1 h0
   have := h1 y hy
   have e2 : y = (i : Int) := by omega
   rw [← e2]
   exact .inr this.2
theorem impl_cw (w : List Int) (hx : w.length ≤ 1048576) (k : Nat) (hk : 1048577 < k) : impl_IsCrossingWord.f k w = some (cw w) := by
 obtain ⟨k, rfl⟩ : ∃ m, k = m + 1 := ⟨k - 1, by omega⟩
 unfold impl_IsCrossingWord.f cw
 rw [impl_isW w hx (k + 1) (by omega), within_eq, Option.bind_some, Option.bind_some]
 simp only [impl_IsCrossingWord.j0, if_true]
 by_cases h : isW w = true
 ·rw [if_pos h]
  obtain ⟨h1, h2⟩ := isW_true h
  by_cases h3 : 2 ≤ w.length ∧ w.length ≤ 12
  ·rw [if_neg (by simp; omega), crossings_eq w h2 (fun y hy => by have := h1 y hy; omega) k (by omega), Option.bind_some, cl_len]
   have := impl_cw_l0 w h2 9 k 0 (by omega) (by omega)
   rw [List.drop_zero, cw_iff w h1] at this
   rw [show ((0 : Int)) = ((0 : Nat) : Int) from rfl, show (((9 : Nat) : Int)) = 9 from rfl, this, h, decide_eq_true h3]
   rfl
  ·rw [if_pos (by simp; omega), decide_eq_false h3]
   simp
 ·rw [if_neg h, Bool.eq_false_iff.2 h]
  rfl
end Go.Proofs.Ytkmjcdlhlhefdaa.L

namespace Go.Proofs.Ytkmjcdlhlhefdaa.L
open Go.RowKit Go.Proofs.Ytkmjcdlhlhefdaa.P Go.Proofs.Ytkmjcdlhlhefdaa.Help Go.Proofs.YtkmjcdlhlhefdaaW.PrintWords
set_option linter.unusedVariables false
set_option linter.unusedSimpArgs false

/-- The first index of a number, or -1. -/
def idx : List Int → Int → Int
 | [], _ => -1
 | y :: ys, x => if y = x then 0 else if idx ys x < 0 then -1 else idx ys x + 1
theorem idx_bd : ∀ (w : List Int) (x : Int), idx w x = -1 ∨ (0 ≤ idx w x ∧ idx w x < w.length)
 | [], _ => .inl rfl
 | y :: ys, x => by
  have ih := idx_bd ys x
  rw [idx, List.length_cons]
  split
  ·right; omega
  ·split
   ·left; rfl
   ·right; omega
theorem idx_mem : ∀ (w : List Int) (x : Int), 0 ≤ idx w x ↔ x ∈ w
 | [], x => by simp [idx]
 | y :: ys, x => by
  have ih := idx_mem ys x
  rw [idx, List.mem_cons]
  by_cases h : y = x
  ·rw [if_pos h]; simp [h]
  ·rw [if_neg h]
   have hne : ¬ x = y := fun e => h e.symm
   by_cases h2 : idx ys x < 0
   ·rw [if_pos h2]
    constructor
    ·intro h3; omega
    ·rintro (h3 | h3)
     ·exact absurd h3 hne
     ·have := ih.2 h3; omega
   ·rw [if_neg h2]
    constructor
    ·intro _; exact .inr (ih.1 (by omega))
    ·intro _; omega
theorem idx_at : ∀ (w : List Int) (x : Int), 0 ≤ idx w x → ∀ h : (idx w x).toNat < w.length, w[(idx w x).toNat] = x
 | [], x, h => by simp [idx] at h
 | y :: ys, x, h => by
  intro h1
  have ih := idx_at ys x
  by_cases h2 : y = x
  ·have e : idx (y :: ys) x = 0 := by rw [idx, if_pos h2]
   simp only [e]
   exact h2
  ·by_cases h3 : idx ys x < 0
   ·rw [idx, if_neg h2, if_pos h3] at h; omega
   ·have e : idx (y :: ys) x = idx ys x + 1 := by rw [idx, if_neg h2, if_neg h3]
    have e2 : (idx (y :: ys) x).toNat = (idx ys x).toNat + 1 := by omega
    simp only [e2, List.getElem_cons_succ]
    exact ih (by omega) _
theorem idx_before : ∀ (w : List Int) (x : Int) (j : Nat), (j : Int) < idx w x → ∀ h : j < w.length, w[j] ≠ x
 | [], x, j, h => by simp [idx] at h; omega
 | y :: ys, x, j, h => by
  intro h1
  by_cases h2 : y = x
  ·rw [idx, if_pos h2] at h; omega
  ·rw [idx, if_neg h2] at h
   cases j with
   | zero => exact h2
   | succ j =>
    by_cases h3 : idx ys x < 0
    ·rw [if_pos h3] at h; omega
    ·rw [if_neg h3] at h
     exact idx_before ys x j (by omega) (by simpa using h1)
theorem indexOf_l0 (w : List Int) (hx : w.length ≤ 1000000000) (x : Int) : ∀ (d k i : Nat), i + d = w.length → d < k → impl_indexOf.l0 k x w (w.length : Int) (i : Int) = some (if idx (w.drop i) x < 0 then -1 else i + idx (w.drop i) x) := by
 intro d
 induction d with
 | zero =>
  intro k i hi hk
  obtain ⟨k, rfl⟩ : ∃ m, k = m + 1 := ⟨k - 1, by omega⟩
  simp only [impl_indexOf.l0]
  rw [if_neg (by omega), List.drop_of_length_le (by omega)]
  rfl
 | succ d ih =>
  intro k i hi hk
  obtain ⟨k, rfl⟩ : ∃ m, k = m + 1 := ⟨k - 1, by omega⟩
  have hlt : i < w.length := by omega
  simp only [impl_indexOf.l0]
  rw [if_pos (by omega), if_pos (by omega), if_pos (by omega), rd_nat w i hlt, List.drop_eq_getElem_cons hlt, idx]
  by_cases h : w[i] = x
  ·rw [if_pos h, if_pos h, if_neg (by omega)]
   congr 1 <;> omega
  ·rw [if_neg h, if_neg h, w_id (by omega) (by omega), show ((i : Int) + 1) = ((i + 1 : Nat) : Int) by omega, ih k (i + 1) (by omega) (by omega)]
   by_cases h2 : idx (w.drop (i + 1)) x < 0
   ·rw [if_pos h2, if_pos h2, if_pos (by omega)]
   ·rw [if_neg h2, if_neg h2, if_neg (by omega)]
    congr 1
    omega
theorem indexOf_eq (w : List Int) (hx : w.length ≤ 1000000000) (x : Int) (k : Nat) (hk : w.length < k) : impl_indexOf.f k w x = some (idx w x) := by
 unfold impl_indexOf.f
 have h := indexOf_l0 w hx x w.length k 0 (by omega) hk
 rw [List.drop_zero] at h
 rw [show ((0 : Int)) = ((0 : Nat) : Int) from rfl, h]
 congr 1
 rcases idx_bd w x with h2 | h2
 ·rw [if_pos (by omega), h2]
 ·rw [if_neg (by omega)]; omega
/-- Both places of a letter, or -1 and -1. -/
def pl (w : List Int) (x : Int) : Int × Int :=
 if idx w x < 0 then (-1, -1) else if idx (w.drop ((idx w x).toNat + 1)) x < 0 then (-1, -1) else (idx w x, idx w x + 1 + idx (w.drop ((idx w x).toNat + 1)) x)
theorem places_two (w : List Int) (hx : w.length ≤ 1000000000) (x : Int) (p : Int) (hp : 0 ≤ p) : ∀ (d k i : Nat), i + d = w.length → d < k → spec_l18Places.l0 k w x p (i : Int) = some (if idx (w.drop i) x < 0 then (-1, -1) else (p, i + idx (w.drop i) x)) := by
 intro d
 induction d with
 | zero =>
  intro k i hi hk
  obtain ⟨k, rfl⟩ : ∃ m, k = m + 1 := ⟨k - 1, by omega⟩
  simp only [spec_l18Places.l0]
  rw [if_neg (by omega), List.drop_of_length_le (by omega)]
  rfl
 | succ d ih =>
  intro k i hi hk
  obtain ⟨k, rfl⟩ : ∃ m, k = m + 1 := ⟨k - 1, by omega⟩
  have hlt : i < w.length := by omega
  simp only [spec_l18Places.l0]
  rw [if_pos (by omega), if_pos (by omega), rd_nat w i hlt, List.drop_eq_getElem_cons hlt, idx]
  by_cases h : w[i] = x
  ·rw [if_pos h, if_pos h, if_pos (by omega), if_neg (by omega)]
   congr 2 <;> omega
  ·rw [if_neg h, if_neg h, w_id (by omega) (by omega), show ((i : Int) + 1) = ((i + 1 : Nat) : Int) by omega, ih k (i + 1) (by omega) (by omega)]
   by_cases h2 : idx (w.drop (i + 1)) x < 0
   ·rw [if_pos h2, if_pos h2, if_pos (by omega)]
   ·rw [if_neg h2, if_neg h2, if_neg (by omega)]
    congr 2
    omega
theorem places_one (w : List Int) (hx : w.length ≤ 1000000000) (x : Int) : ∀ (d k i : Nat), i + d = w.length → d < k →
  spec_l18Places.l0 k w x (-1) (i : Int) = some (if idx (w.drop i) x < 0 then (-1, -1) else if idx (w.drop (i + (idx (w.drop i) x).toNat + 1)) x < 0 then (-1, -1) else (i + idx (w.drop i) x, i + idx (w.drop i) x + 1 + idx (w.drop (i + (idx (w.drop i) x).toNat + 1)) x)) := by
 intro d
 induction d with
 | zero =>
  intro k i hi hk
  obtain ⟨k, rfl⟩ : ∃ m, k = m + 1 := ⟨k - 1, by omega⟩
  simp only [spec_l18Places.l0]
  rw [if_neg (by omega), List.drop_of_length_le (show w.length ≤ i by omega)]
  rfl
 | succ d ih =>
  intro k i hi hk
  obtain ⟨k, rfl⟩ : ∃ m, k = m + 1 := ⟨k - 1, by omega⟩
  have hlt : i < w.length := by omega
  have hd := List.drop_eq_getElem_cons hlt
  simp only [spec_l18Places.l0]
  rw [if_pos (by omega), if_pos (by omega), rd_nat w i hlt]
  by_cases h : w[i] = x
  ·have e : idx (w.drop i) x = 0 := by rw [hd, idx, if_pos h]
   rw [if_pos h, if_neg (by omega), w_id (by omega) (by omega), show ((i : Int) + 1) = ((i + 1 : Nat) : Int) by omega, places_two w hx x (i : Int) (by omega) d k (i + 1) (by omega) (by omega), e]
   simp only [Int.lt_irrefl, if_false, Int.toNat_zero, Nat.add_zero, Int.add_zero]
   by_cases h2 : idx (w.drop (i + 1)) x < 0
   ·rw [if_pos h2, if_pos h2]
   ·rw [if_neg h2, if_neg h2]
    congr 2 <;> omega
  ·rw [if_neg h, w_id (by omega) (by omega), show ((i : Int) + 1) = ((i + 1 : Nat) : Int) by omega, ih k (i + 1) (by omega) (by omega)]
   by_cases h2 : idx (w.drop (i + 1)) x < 0
   ·have e : idx (w.drop i) x = -1 := by rw [hd, idx, if_neg h, if_pos h2]
    rw [if_pos h2, e, if_pos (by omega)]
   ·have e : idx (w.drop i) x = idx (w.drop (i + 1)) x + 1 := by rw [hd, idx, if_neg h, if_neg h2]
    rw [if_neg h2, e, if_neg (show ¬ (idx (w.drop (i + 1)) x + 1 < 0) by omega)]
    rw [show i + (idx (w.drop (i + 1)) x + 1).toNat + 1 = i + 1 + (idx (w.drop (i + 1)) x).toNat + 1 by omega]
    by_cases h3 : idx (w.drop (i + 1 + (idx (w.drop (i + 1)) x).toNat + 1)) x < 0
    ·rw [if_pos h3, if_pos h3]
    ·rw [if_neg h3, if_neg h3]
     congr 2 <;> omega
theorem spec_places (w : List Int) (hx : w.length ≤ 1000000000) (x : Int) (k : Nat) (hk : w.length < k) : spec_l18Places.f k w x = some (pl w x) := by
 unfold spec_l18Places.f
 have h := places_one w hx x w.length k 0 (by omega) hk
 rw [List.drop_zero] at h
 rw [show ((0 : Int)) = ((0 : Nat) : Int) from rfl, h]
 unfold pl
 congr 1
 split
 ·rfl
 ·rw [show 0 + (idx w x).toNat + 1 = (idx w x).toNat + 1 by omega]
  split
  ·rfl
  ·congr 1 <;> omega
theorem cnt_pos_eq {w : List Int} (hw : ∀ y ∈ w, 1 ≤ y) {x : Int} : x ∉ w → 1 ≤ x → cnt w x = 0 := by
 intro h hx
 by_cases h0 : cnt w x = 0
 ·exact h0
 ·obtain ⟨y, hy, e⟩ := (cnt_ne w x).1 h0
  have := hw y hy
  have e2 : y = x := by omega
  rw [e2] at hy
  exact absurd hy h
/-- In a word in which a letter occurs twice or not at all, its second place is there if the first is. -/
theorem second {w : List Int} (hw : ∀ y ∈ w, 1 ≤ y) {x : Int} (hc : x ∈ w → cnt w x = 2) (h : 0 ≤ idx w x) : 0 ≤ idx (w.drop ((idx w x).toNat + 1)) x := by
 rcases idx_bd w x with hb | hb
 ·omega
 ·have hlt : (idx w x).toNat < w.length := by omega
  have hat := idx_at w x h hlt
  have hm := (idx_mem w x).1 h
  have hx := hw x hm
  rcases Int.lt_or_le (idx (w.drop ((idx w x).toNat + 1)) x) 0 with h2 | h2
  ·exfalso
   have n1 : x ∉ w.drop ((idx w x).toNat + 1) := fun hm2 => by have := (idx_mem _ _).2 hm2; omega
   have n2 : x ∉ w.take (idx w x).toNat := by
    intro hm2
    obtain ⟨j, hj, e⟩ := List.getElem_of_mem hm2
    rw [List.length_take] at hj
    rw [List.getElem_take] at e
    exact idx_before w x j (by omega) (by omega) e
   have e : w = w.take (idx w x).toNat ++ (x :: w.drop ((idx w x).toNat + 1)) := by
    conv => lhs; rw [← List.take_append_drop (idx w x).toNat w]
    rw [List.drop_eq_getElem_cons hlt, hat]
   have c1 := cnt_pos_eq (fun y hy => hw y (List.mem_of_mem_drop hy)) n1 hx
   have c2 := cnt_pos_eq (fun y hy => hw y (List.mem_of_mem_take hy)) n2 hx
   have c3 := hc hm
   rw [e, cnt_append, cnt, c1, c2] at c3
   split at c3 <;> omega
  ·exact h2
theorem impl_places (w : List Int) (hx : w.length ≤ 1000000) (x : Int) (hw : ∀ y ∈ w, 1 ≤ y) (hc : x ∈ w → cnt w x = 2) (k : Nat) (hk : w.length < k) : impl_placesOf.f k w x = some (pl w x) := by
 unfold impl_placesOf.f pl
 rw [indexOf_eq w (by omega) x k hk, Option.bind_some]
 rcases idx_bd w x with hb | hb
 ·rw [hb, w_id (by omega) (by omega)]
  rw [if_pos (by omega), if_pos (by omega), show ((-1 : Int) + 1).toNat = 0 from rfl, List.drop_zero, indexOf_eq w (by omega) x k hk, Option.bind_some, hb, if_pos (by omega), w_id (by omega) (by omega)]
  rfl
 ·have h2 := second hw hc hb.1
  rw [w_id (by omega) (by omega), if_pos (by omega), if_pos (by omega), show (idx w x + 1).toNat = (idx w x).toNat + 1 by omega, indexOf_eq _ (by rw [List.length_drop]; omega) x k (by rw [List.length_drop]; omega), Option.bind_some]
  have hb2 := idx_bd (w.drop ((idx w x).toNat + 1)) x
  rw [List.length_drop] at hb2
  rw [w_id (by omega) (by omega), if_neg (by omega), if_neg (by omega)]
def lk (w : List Int) (x y : Int) : Bool := (decide ((pl w x).1 < (pl w y).1 ∧ (pl w y).1 < (pl w x).2)) != (decide ((pl w x).1 < (pl w y).2 ∧ (pl w y).2 < (pl w x).2))
theorem spec_lk (w : List Int) (hx : w.length ≤ 1000000) (x y : Int) (k : Nat) (hk : w.length < k) : spec_l18Linked.f k w x y = some (lk w x y) := by
 unfold spec_l18Linked.f lk
 rw [spec_places w (by omega) x k hk, spec_places w (by omega) y k hk, Option.bind_some, Option.bind_some]
 by_cases h1 : (pl w x).1 < (pl w y).1 <;> by_cases h2 : (pl w x).1 < (pl w y).2 <;> simp [h1, h2]
theorem impl_lk (w : List Int) (hx : w.length ≤ 1000000) (x y : Int) (hw : ∀ y ∈ w, 1 ≤ y) (hc : ∀ z ∈ w, cnt w z = 2) (k : Nat) (hk : w.length < k) : impl_linked.f k w x y = some (lk w x y) := by
 unfold impl_linked.f lk
 rw [impl_places w hx x hw (hc x) k hk, impl_places w hx y hw (hc y) k hk, Option.bind_some, Option.bind_some]
 by_cases h1 : (pl w x).1 < (pl w y).1 <;> by_cases h2 : (pl w x).1 < (pl w y).2 <;> simp [h1, h2]
theorem cw_pos {w : List Int} (h : cw w = true) : ∀ y ∈ w, 1 ≤ y := fun y hy => ((cw_true h).2 y hy).1.1
theorem cw_two {w : List Int} (h : cw w = true) : ∀ y ∈ w, cnt w y = 2 := fun y hy => ((cw_true h).2 y hy).2
theorem cw_mem {w : List Int} (h : cw w = true) (x : Int) : (x ∈ w) ↔ (1 ≤ x ∧ cnt w x = 2) := by
 constructor
 ·intro hx; exact ⟨cw_pos h x hx, cw_two h x hx⟩
 ·rintro ⟨h1, h2⟩
  obtain ⟨y, hy, e⟩ := (cnt_ne w x).1 (by omega)
  have := cw_pos h y hy
  have e2 : y = x := by omega
  rw [← e2]
  exact hy
def linkR (w : List Int) (x y : Int) : Bool := cw w && decide (x ≠ y ∧ x ∈ w ∧ y ∈ w) && lk w x y
theorem spec_linked (w : List Int) (hx : w.length ≤ 1048576) (x y : Int) (k : Nat) (hk : 1048577 < k) : spec_AreLinked.f k w x y = some (linkR w x y) := by
 unfold spec_AreLinked.f linkR
 rw [spec_cw w hx k hk, Option.bind_some]
 by_cases h : cw w = true
 ·obtain ⟨h1, h2⟩ := cw_true h
  rw [if_pos h, spec_count w (by omega) (cw_small h) x k (by omega), spec_count w (by omega) (cw_small h) y k (by omega), Option.bind_some, Option.bind_some, spec_lk w (by omega) x y k (by omega), h]
  by_cases h3 : x = y
  ·rw [if_pos h3, decide_eq_false (fun h => h.1 h3)]; rfl
  ·rw [if_neg h3]
   by_cases h4 : cnt w x = 2
   ·rw [if_pos h4]
    by_cases h5 : cnt w y = 2
    ·rw [if_pos h5]
     by_cases h6 : x < 1
     ·rw [if_pos h6, decide_eq_false (fun h' => by have := (cw_mem h x).1 h'.2.1; omega)]; rfl
     ·rw [if_neg h6]
      by_cases h7 : y < 1
      ·rw [if_pos h7, decide_eq_false (fun h' => by have := (cw_mem h y).1 h'.2.2; omega)]; rfl
      ·rw [if_neg h7, decide_eq_true ⟨h3, (cw_mem h x).2 ⟨by omega, h4⟩, (cw_mem h y).2 ⟨by omega, h5⟩⟩]
       rfl
    ·rw [if_neg h5, decide_eq_false (fun h' => h5 ((cw_mem h y).1 h'.2.2).2)]; rfl
   ·rw [if_neg h4, decide_eq_false (fun h' => h4 ((cw_mem h x).1 h'.2.1).2)]; rfl
 ·rw [if_neg h, Bool.eq_false_iff.2 h]; rfl
theorem impl_linkedA (w : List Int) (hx : w.length ≤ 1048576) (x y : Int) (k : Nat) (hk : 1048577 < k) : impl_AreLinked.f k w x y = some (linkR w x y) := by
 unfold impl_AreLinked.f linkR
 rw [impl_cw w hx k hk, Option.bind_some]
 by_cases h : cw w = true
 ·obtain ⟨h1, h2⟩ := cw_true h
  rw [if_pos h, indexOf_eq w (by omega) x k (by omega), indexOf_eq w (by omega) y k (by omega), Option.bind_some, Option.bind_some, impl_lk w (by omega) x y (cw_pos h) (cw_two h) k (by omega), h]
  have hx1 := idx_mem w x
  have hy1 := idx_mem w y
  by_cases h3 : x = y
  ·rw [if_pos h3, decide_eq_false (fun h => h.1 h3)]; rfl
  ·rw [if_neg h3]
   by_cases h4 : idx w x ≥ 0
   ·rw [if_pos h4]
    by_cases h5 : idx w y ≥ 0
    ·rw [if_pos h5, decide_eq_true ⟨h3, hx1.1 h4, hy1.1 h5⟩]; rfl
    ·rw [if_neg h5, decide_eq_false (fun h' => h5 (hy1.2 h'.2.2))]; rfl
   ·rw [if_neg h4, decide_eq_false (fun h' => h4 (hx1.2 h'.2.1))]; rfl
 ·rw [if_neg h, Bool.eq_false_iff.2 h]; rfl
end Go.Proofs.Ytkmjcdlhlhefdaa.L

namespace Go.Proofs.Ytkmjcdlhlhefdaa.L
open Go.RowKit Go.Proofs.Ytkmjcdlhlhefdaa.P Go.Proofs.Ytkmjcdlhlhefdaa.Help Go.Proofs.YtkmjcdlhlhefdaaW.PrintWords
set_option linter.unusedVariables false
set_option linter.unusedSimpArgs false

/-- The letters of a word from a number on, n numbers. -/
def lettersF (w : List Int) : Nat → Nat → List Int
 | 0, _ => []
 | n + 1, i => if cnt w (i : Int) > 0 then (i : Int) :: lettersF w n (i + 1) else lettersF w n (i + 1)
theorem lettersF_len (w : List Int) : ∀ n i, (lettersF w n i).length ≤ n
 | 0, _ => by simp [lettersF]
 | n + 1, i => by
  have := lettersF_len w n (i + 1)
  rw [lettersF]
  split
  ·rw [List.length_cons]; omega
  ·omega
theorem letters_l0 (w : List Int) : ∀ (d k i : Nat) (o : List Int), i + d = 9 → d < k → o.length ≤ i → impl_lettersOf.l0 k o (cl w) 9 (i : Int) = some (o ++ lettersF w d i) := by
 intro d
 induction d with
 | zero =>
  intro k i o hi hk ho
  obtain ⟨k, rfl⟩ : ∃ m, k = m + 1 := ⟨k - 1, by omega⟩
  simp only [impl_lettersOf.l0, lettersF]
  rw [if_neg (by omega), List.append_nil]
 | succ d ih =>
  intro k i o hi hk ho
  obtain ⟨k, rfl⟩ : ∃ m, k = m + 1 := ⟨k - 1, by omega⟩
  have hlt : i < (cl w).length := by rw [cl_len]; omega
  simp only [impl_lettersOf.l0, lettersF]
  rw [if_pos (by omega), if_pos (by omega), cl_len, if_pos (by omega), rd_nat _ i hlt, cl_get, w_id (by omega) (by omega), show ((i : Int) + 1) = ((i + 1 : Nat) : Int) by omega]
  by_cases h : cnt w (i : Int) > 0
  ·rw [if_pos h, if_pos h, if_pos (by omega), ih k (i + 1) _ (by omega) (by omega) (by simp; omega)]
   simp
  ·rw [if_neg h, if_neg h, ih k (i + 1) o (by omega) (by omega) (by omega)]
def letters (w : List Int) : List Int := lettersF w 9 0
theorem impl_letters {w : List Int} (h : cw w = true) (k : Nat) (hk : 50 < k) : impl_lettersOf.f k w = some (letters w) := by
 unfold impl_lettersOf.f
 obtain ⟨h1, _⟩ := cw_true h
 rw [crossings_eq w (by omega) (cw_small h) k (by omega), Option.bind_some, cl_len]
 exact letters_l0 w 9 k 0 [] (by omega) (by omega) (by simp)
theorem lettersF_pos {w : List Int} : ∀ n i, ∀ x ∈ lettersF w n i, cnt w x > 0 ∧ (i : Int) ≤ x
 | 0, _, x, h => by simp [lettersF] at h
 | n + 1, i, x, h => by
  rw [lettersF] at h
  split at h
  ·rcases List.mem_cons.1 h with rfl | h
   ·exact ⟨by assumption, by omega⟩
   ·have := lettersF_pos n (i + 1) x h
    exact ⟨this.1, by omega⟩
  ·have := lettersF_pos n (i + 1) x h
   exact ⟨this.1, by omega⟩
theorem cw_zero {w : List Int} (h : cw w = true) : cnt w 0 = 0 := by
 by_cases h0 : cnt w 0 = 0
 ·exact h0
 ·obtain ⟨y, hy, e⟩ := (cnt_ne w 0).1 h0
  have := cw_pos h y hy
  omega
theorem cw_cnt {w : List Int} (h : cw w = true) (x : Int) : cnt w x = 0 ∨ cnt w x = 2 := by
 by_cases h0 : cnt w x = 0
 ·exact .inl h0
 ·obtain ⟨y, hy, e⟩ := (cnt_ne w x).1 h0
  have := cw_pos h y hy
  have e2 : y = x := by omega
  rw [← e2]
  exact .inr (cw_two h y hy)
/-- How many letters of a list are linked with a letter. -/
def linksOf (w : List Int) (x : Int) : List Int → Int
 | [] => 0
 | y :: ys => (if x ≠ y ∧ lk w x y = true then 1 else 0) + linksOf w x ys
theorem linksOf_bd (w : List Int) (x : Int) : ∀ l, 0 ≤ linksOf w x l ∧ linksOf w x l ≤ l.length
 | [] => by simp [linksOf]
 | y :: ys => by
  have := linksOf_bd w x ys
  rw [linksOf, List.length_cons]
  split <;> omega
theorem bit_eq (b : Bool) : spec_l1Bit.f b = some (if b = true then 1 else 0) := by
 unfold spec_l1Bit.f
 split <;> rfl
theorem spec_row_l1 {w : List Int} (h : cw w = true) (x : Int) (o : List Int) (ho : o.length ≤ 20) : ∀ (d k j : Nat) (n : Int), j + d = 9 → 1 ≤ j → d + 30 < k → 0 ≤ n → n + d ≤ 100 → 1 ≤ x → x ≤ 8 →
  spec_LinkRow.l1 k w o x n (j : Int) = spec_LinkRow.l0 (k - d - 1) w (o ++ [n + linksOf w x (lettersF w d j)]) (x + 1) := by
 intro d
 obtain ⟨h1, _⟩ := cw_true h
 induction d with
 | zero =>
  intro k j n hj hj1 hk h0 hn hx0 hx1
  obtain ⟨k, rfl⟩ : ∃ m, k = m + 1 := ⟨k - 1, by omega⟩
  conv => lhs; unfold spec_LinkRow.l1
  rw [if_neg (by omega), if_pos (by omega), w_id (by omega) (by omega)]
  simp [lettersF, linksOf]
 | succ d ih =>
  intro k j n hj hj1 hk h0 hn hx0 hx1
  obtain ⟨k, rfl⟩ : ∃ m, k = m + 1 := ⟨k - 1, by omega⟩
  conv => lhs; unfold spec_LinkRow.l1
  rw [if_pos (by omega), bit_eq, spec_count w (by omega) (cw_small h) _ k (by omega), spec_lk w (by omega) x _ k (by omega), w_id (a := (j : Int) + 1) (by omega) (by omega), show ((j : Int) + 1) = ((j + 1 : Nat) : Int) by omega]
  simp only [Option.bind_some, Bool.false_eq_true, if_false, Int.add_zero, lettersF]
  rw [w_id (a := n) (by omega) (by omega), show k + 1 - (d + 1) - 1 = k - d - 1 by omega]
  have h0' := ih k (j + 1) n (by omega) (by omega) (by omega) h0 (by omega) hx0 hx1
  rcases cw_cnt h (j : Int) with hc | hc
  ·rw [hc, if_neg (show ¬ (0 : Int) = 2 by decide), if_neg (show ¬ (0 : Int) > 0 by decide), h0']
   split <;> rfl
  ·rw [hc, if_pos (show (2 : Int) = 2 from rfl), if_pos (show (2 : Int) > 0 by decide)]
   by_cases hx : (j : Int) = x
   ·rw [if_pos hx, h0', linksOf, if_neg (fun h => h.1 hx.symm), Int.zero_add]
   ·rw [if_neg hx, bit_eq, Option.bind_some]
    by_cases hl : lk w x (j : Int) = true
    ·rw [if_pos hl, w_id (by omega) (by omega), ih k (j + 1) (n + 1) (by omega) (by omega) (by omega) (by omega) (by omega) hx0 hx1, linksOf, if_pos ⟨Ne.symm hx, hl⟩]
     congr 3
     omega
    ·rw [if_neg hl, Int.add_zero, w_id (by omega) (by omega), h0', linksOf, if_neg (fun h => hl h.2), Int.zero_add]
def rowF (w : List Int) : Nat → Nat → List Int
 | 0, _ => []
 | n + 1, i => if cnt w (i : Int) > 0 then linksOf w (i : Int) (letters w) :: rowF w n (i + 1) else rowF w n (i + 1)
theorem letters_tail {w : List Int} (h : cw w = true) : letters w = lettersF w 8 1 := by
 unfold letters
 rw [lettersF, if_neg (by rw [show (((0 : Nat) : Int)) = 0 from rfl, cw_zero h]; decide)]
theorem spec_row_l0 {w : List Int} (h : cw w = true) : ∀ (d k i : Nat) (o : List Int), i + d = 9 → 1 ≤ i → 20 * d + 1048600 < k → o.length ≤ i → spec_LinkRow.l0 k w o (i : Int) = some (o ++ rowF w d i) := by
 intro d
 obtain ⟨h1, _⟩ := cw_true h
 induction d with
 | zero =>
  intro k i o hi hi1 hk ho
  obtain ⟨k, rfl⟩ : ∃ m, k = m + 2 := ⟨k - 2, by omega⟩
  conv => lhs; unfold spec_LinkRow.l0; unfold spec_LinkRow.j1
  rw [if_neg (by omega)]
  simp [rowF]
 | succ d ih =>
  intro k i o hi hi1 hk ho
  obtain ⟨k, rfl⟩ : ∃ m, k = m + 2 := ⟨k - 2, by omega⟩
  conv => lhs; unfold spec_LinkRow.l0; unfold spec_LinkRow.j1
  rw [if_pos (by omega), spec_cw w (by omega) _ (by omega), Option.bind_some, h, if_pos rfl, spec_count w (by omega) (cw_small h) _ k (by omega), Option.bind_some, w_id (by omega) (by omega)]
  simp only [rowF]
  have hb := cnt_bd w (i : Int)
  by_cases hc : cnt w (i : Int) = 0
  ·rw [if_pos hc, if_neg (by omega), show ((i : Int) + 1) = ((i + 1 : Nat) : Int) by omega, ih k (i + 1) o (by omega) (by omega) (by omega) (by omega)]
  ·have hl := spec_row_l1 h (i : Int) o (by omega) 8 k 1 0 (by omega) (by omega) (by omega) (by omega) (by omega) (by omega) (by omega)
   rw [← letters_tail h, Int.zero_add] at hl
   rw [if_neg hc, if_pos (by omega), show (1 : Int) = ((1 : Nat) : Int) from rfl, hl]
   have h2 := ih (k - 8 - 1) (i + 1) (o ++ [linksOf w (i : Int) (letters w)]) (by omega) (by omega) (by omega) (by simp; omega)
   rw [show (((i + 1 : Nat)) : Int) = (i : Int) + 1 by omega] at h2
   refine h2.trans ?_
   rw [List.append_assoc]
   rfl
def rowR (w : List Int) : List Int := if cw w = true then rowF w 8 1 else []
theorem rowF_len (w : List Int) : ∀ n i, (rowF w n i).length ≤ n
 | 0, _ => by simp [rowF]
 | n + 1, i => by
  have := rowF_len w n (i + 1)
  rw [rowF]
  split
  ·rw [List.length_cons]; omega
  ·omega
theorem rowR_len (w : List Int) : (rowR w).length ≤ 8 := by
 unfold rowR
 split
 ·exact rowF_len _ _ _
 ·simp
theorem spec_row (w : List Int) (hx : w.length ≤ 1048576) (k : Nat) (hk : 1060000 < k) : spec_LinkRow.f k w = some (rowR w) := by
 unfold spec_LinkRow.f rowR
 by_cases h : cw w = true
 ·rw [if_pos h]
  exact spec_row_l0 h 8 k 1 [] (by omega) (by omega) (by omega) (by simp)
 ·rw [if_neg h]
  obtain ⟨k, rfl⟩ : ∃ m, k = m + 2 := ⟨k - 2, by omega⟩
  conv => lhs; unfold spec_LinkRow.l0; unfold spec_LinkRow.j1
  rw [if_pos (by decide), spec_cw w hx _ (by omega), Option.bind_some, if_neg h]
theorem impl_row_l1 {w : List Int} (h : cw w = true) (x : Int) (o L : List Int) (ho : o.length ≤ 20) (a : Int) (ha : 0 ≤ a ∧ a ≤ 100) (l : List Int) (hl : l.length ≤ 20) : ∀ (d k j : Nat) (n : Int), j + d = l.length → d + 30 < k → 0 ≤ n → n + d ≤ 100 →
  impl_LinkRow.l1 k w o x n L (L.length : Int) a l (l.length : Int) (j : Int) = impl_LinkRow.l0 (k - d - 1) w (o ++ [n + linksOf w x (l.drop j)]) L (L.length : Int) (a + 1) := by
 intro d
 obtain ⟨h1, _⟩ := cw_true h
 induction d with
 | zero =>
  intro k j n hj hk h0 hn
  obtain ⟨k, rfl⟩ : ∃ m, k = m + 1 := ⟨k - 1, by omega⟩
  conv => lhs; unfold impl_LinkRow.l1
  rw [if_neg (by omega), if_pos (by omega), w_id (by omega) (by omega), List.drop_of_length_le (by omega)]
  simp [linksOf]
 | succ d ih =>
  intro k j n hj hk h0 hn
  obtain ⟨k, rfl⟩ : ∃ m, k = m + 1 := ⟨k - 1, by omega⟩
  have hlt : j < l.length := by omega
  conv => lhs; unfold impl_LinkRow.l1
  rw [if_pos (by omega), if_pos (by omega), if_pos (by omega), rd_nat l j hlt, impl_lk w (by omega) x _ (cw_pos h) (cw_two h) k (by omega), Option.bind_some, w_id (a := (j : Int) + 1) (by omega) (by omega), w_id (a := n + 1) (by omega) (by omega), show ((j : Int) + 1) = ((j + 1 : Nat) : Int) by omega, List.drop_eq_getElem_cons hlt, linksOf, show k + 1 - (d + 1) - 1 = k - d - 1 by omega]
  have h0' := ih k (j + 1) n (by omega) (by omega) h0 (by omega)
  by_cases hx : x = l[j]
  ·rw [if_pos hx, h0', if_neg (fun h => h.1 hx), Int.zero_add]
  ·rw [if_neg hx]
   by_cases hl2 : lk w x l[j] = true
   ·rw [if_pos hl2, ih k (j + 1) (n + 1) (by omega) (by omega) (by omega) (by omega), if_pos ⟨hx, hl2⟩]
    congr 3
    omega
   ·rw [if_neg hl2, h0', if_neg (fun h => hl2 h.2), Int.zero_add]
theorem impl_row_l0 {w : List Int} (h : cw w = true) (L : List Int) (hL : L.length ≤ 20) : ∀ (d k i : Nat) (o : List Int), i + d = L.length → 50 * d + 100 < k → o.length ≤ i → impl_LinkRow.l0 k w o L (L.length : Int) (i : Int) = some (o ++ (L.drop i).map (fun x => linksOf w x (letters w))) := by
 intro d
 obtain ⟨h1, _⟩ := cw_true h
 induction d with
 | zero =>
  intro k i o hi hk ho
  obtain ⟨k, rfl⟩ : ∃ m, k = m + 1 := ⟨k - 1, by omega⟩
  conv => lhs; unfold impl_LinkRow.l0
  rw [if_neg (by omega), List.drop_of_length_le (by omega)]
  simp
 | succ d ih =>
  intro k i o hi hk ho
  obtain ⟨k, rfl⟩ : ∃ m, k = m + 1 := ⟨k - 1, by omega⟩
  have hlt : i < L.length := by omega
  have hll : (letters w).length ≤ 9 := lettersF_len w 9 0
  conv => lhs; unfold impl_LinkRow.l0
  rw [if_pos (by omega), if_pos (by omega), if_pos (by omega), impl_letters h k (by omega), Option.bind_some, rd_nat L i hlt]
  have hl := impl_row_l1 h L[i] o L (by omega) (i : Int) (by omega) (letters w) (by omega) (letters w).length k 0 0 (by omega) (by omega) (by omega) (by omega)
  rw [List.drop_zero, Int.zero_add] at hl
  rw [show (0 : Int) = ((0 : Nat) : Int) from rfl]
  rw [show (((0 : Nat) : Int)) = 0 from rfl] at hl ⊢
  rw [hl, show ((i : Int) + 1) = ((i + 1 : Nat) : Int) by omega, ih _ (i + 1) _ (by omega) (by omega) (by simp; omega), List.drop_eq_getElem_cons hlt, List.map_cons, List.append_assoc]
  rfl
theorem rowF_map (w : List Int) : ∀ n i, rowF w n i = (lettersF w n i).map (fun x => linksOf w x (letters w))
 | 0, _ => rfl
 | n + 1, i => by
  rw [rowF, lettersF]
  split
  ·rw [List.map_cons, rowF_map w n (i + 1)]
  ·exact rowF_map w n (i + 1)
theorem impl_row (w : List Int) (hx : w.length ≤ 1048576) (k : Nat) (hk : 1060000 < k) : impl_LinkRow.f k w = some (rowR w) := by
 unfold impl_LinkRow.f rowR
 rw [impl_cw w hx k (by omega), Option.bind_some]
 by_cases h : cw w = true
 ·have hll : (letters w).length ≤ 9 := lettersF_len w 9 0
  rw [if_pos h, if_pos h, impl_letters h k (by omega), Option.bind_some, rowF_map, ← letters_tail h]
  have := impl_row_l0 h (letters w) (by omega) (letters w).length k 0 [] (by omega) (by omega) (by simp)
  rw [List.drop_zero, List.nil_append] at this
  exact this
 ·rw [if_neg h, if_neg h]
end Go.Proofs.Ytkmjcdlhlhefdaa.L

namespace Go.Proofs.Ytkmjcdlhlhefdaa.L
open Go.RowKit Go.Proofs.Ytkmjcdlhlhefdaa.P Go.Proofs.Ytkmjcdlhlhefdaa.Help Go.Proofs.YtkmjcdlhlhefdaaW.PrintWords
set_option linter.unusedVariables false
set_option linter.unusedSimpArgs false

theorem divmodC {a b q r : Int} (hb : 0 < b) (h : r + b * q = a) (h0 : 0 ≤ r) (h1 : r < b) : a / b = q ∧ a % b = r := (Int.ediv_emod_unique hb).2 ⟨h, h0, h1⟩
/-- The place ahead, around. -/
def pr (p n : Int) : Int := if p = 0 then n - 1 else p - 1
theorem pr_bd {p n : Int} (h0 : 0 ≤ p) (h1 : p < n) : 0 ≤ pr p n ∧ pr p n < n := by
 unfold pr
 split <;> omega
theorem pr_inj {p q n : Int} (h0 : 0 ≤ p ∧ p < n) (h1 : 0 ≤ q ∧ q < n) (h : p ≠ q) : pr p n ≠ pr q n := by
 unfold pr
 split <;> split <;> omega
theorem pr_spec {p n : Int} (h0 : 0 ≤ p) (h1 : p < n) : (p + n - 1).tmod n = pr p n := by
 rw [Int.tmod_eq_emod_of_nonneg (by omega)]
 unfold pr
 by_cases h : p = 0
 ·rw [if_pos h]
  exact (divmodC (q := 0) (by omega) (by omega) (by omega) (by omega)).2
 ·rw [if_neg h]
  exact (divmodC (q := 1) (by omega) (by omega) (by omega) (by omega)).2
theorem pr_impl {p n : Int} (h0 : 0 ≤ p) (h1 : p < n) (h2 : 2 ≤ n) (h3 : n ≤ 100) : impl_mod.f (p - 1) n = some (pr p n) := by
 unfold impl_mod.f pr
 rw [if_neg (by omega)]
 by_cases h : p = 0
 ·have e : (p - 1).tmod n = -1 := by
   rw [h, show (0 : Int) - 1 = -1 by omega, Int.neg_tmod]
   congr 1
   exact Int.tmod_eq_of_lt (by omega) (by omega)
  rw [if_pos h, e, if_pos (by omega), w_id (by omega) (by omega)]
  congr 1
  omega
 ·have e : (p - 1).tmod n = p - 1 := Int.tmod_eq_of_lt (by omega) (by omega)
  rw [if_neg h, e, if_neg (by omega)]
/-- Four darts in a ring. -/
def ring4 (m : List Int) (a b c d : Int) : List Int := (((m.set a.toNat b).set b.toNat c).set c.toNat d).set d.toNat a
theorem ring4_len (m : List Int) (a b c d : Int) : (ring4 m a b c d).length = m.length := by simp [ring4]
theorem spec_ring (m : List Int) (a b c d : Int) (ha : 0 ≤ a ∧ a < m.length) (hb : 0 ≤ b ∧ b < m.length) (hc : 0 ≤ c ∧ c < m.length) (hd : 0 ≤ d ∧ d < m.length) (k : Nat) (hk : 5 < k) : spec_l7Ring.f k m [a, b, c, d] = some (ring4 m a b c d) := by
 obtain ⟨k, rfl⟩ : ∃ m, k = m + 5 := ⟨k - 5, by omega⟩
 have e0 : Int.tmod (wrap64 (0 + 1)) 4 = 1 := by decide +kernel
 have e1 : Int.tmod (wrap64 (1 + 1)) 4 = 2 := by decide +kernel
 have e2 : Int.tmod (wrap64 (2 + 1)) 4 = 3 := by decide +kernel
 have e3 : Int.tmod (wrap64 (3 + 1)) 4 = 0 := by decide +kernel
 have w0 : wrap64 (0 + 1) = 1 := by decide +kernel
 have w1 : wrap64 (1 + 1) = 2 := by decide +kernel
 have w2 : wrap64 (2 + 1) = 3 := by decide +kernel
 have w3 : wrap64 (3 + 1) = 4 := by decide +kernel
 have r0 : rd [a, b, c, d] 0 = a := rfl
 have r1 : rd [a, b, c, d] 1 = b := rfl
 have r2 : rd [a, b, c, d] 2 = c := rfl
 have r3 : rd [a, b, c, d] 3 = d := rfl
 have l4 : (([a, b, c, d] : List Int).length : Int) = 4 := rfl
 unfold spec_l7Ring.f ring4
 rw [show k + 5 = (k + 4) + 1 from rfl]; unfold spec_l7Ring.l0
 rw [l4, e0, w0, r0, r1, if_pos (by decide), if_pos (by decide), if_neg (by decide), if_pos (by decide), if_pos (by decide), if_pos ha.1, if_pos ha.2]
 rw [show k + 4 = (k + 3) + 1 from rfl]; unfold spec_l7Ring.l0
 rw [l4, e1, w1, r1, r2, if_pos (by decide), if_pos (by decide), if_neg (by decide), if_pos (by decide), if_pos (by decide), if_pos hb.1, if_pos (by rw [List.length_set]; exact hb.2)]
 rw [show k + 3 = (k + 2) + 1 from rfl]; unfold spec_l7Ring.l0
 rw [l4, e2, w2, r2, r3, if_pos (by decide), if_pos (by decide), if_neg (by decide), if_pos (by decide), if_pos (by decide), if_pos hc.1, if_pos (by rw [List.length_set, List.length_set]; exact hc.2)]
 rw [show k + 2 = (k + 1) + 1 from rfl]; unfold spec_l7Ring.l0
 rw [l4, e3, w3, r3, r0, if_pos (by decide), if_pos (by decide), if_neg (by decide), if_pos (by decide), if_pos (by decide), if_pos hd.1, if_pos (by rw [List.length_set, List.length_set, List.length_set]; exact hd.2)]
 unfold spec_l7Ring.l0
 rw [l4, if_neg (by decide)]
/-- The bit of a set for a letter. -/
def bitOf (s x : Int) : Int := Go.bits .and .i64 (shr .i64 s (x - 1)) 1
/-- One crossing told. -/
def crossM (w : List Int) (s : Int) (m : List Int) (x : Int) : List Int :=
 if (pl w x).1 < 0 then m
 else if bitOf s x = 1 then ring4 m (2 * pr (pl w x).2 w.length + 1) (2 * pr (pl w x).1 w.length + 1) (2 * (pl w x).2) (2 * (pl w x).1)
 else ring4 m (2 * (pl w x).1) (2 * (pl w x).2) (2 * pr (pl w x).1 w.length + 1) (2 * pr (pl w x).2 w.length + 1)
theorem crossM_len (w : List Int) (s : Int) (m : List Int) (x : Int) : (crossM w s m x).length = m.length := by
 unfold crossM
 repeat' split
 all_goals first | rfl | exact ring4_len _ _ _ _ _
theorem pl_bd (w : List Int) (x : Int) : (pl w x = (-1, -1)) ∨ ((0 ≤ (pl w x).1 ∧ (pl w x).1 < (pl w x).2) ∧ (pl w x).2 < w.length) := by
 unfold pl
 rcases idx_bd w x with h | h
 ·left; rw [h]; rfl
 ·rw [if_neg (by omega)]
  rcases idx_bd (w.drop ((idx w x).toNat + 1)) x with h2 | h2
  ·left; rw [h2]; rfl
  ·right
   rw [List.length_drop] at h2
   rw [if_neg (by omega)]
   simp only
   omega
def mapF (w : List Int) (s : Int) : Nat → Nat → List Int → List Int
 | 0, _, m => m
 | n + 1, i, m => mapF w s n (i + 1) (crossM w s m (i : Int))
theorem u64_w {n : Int} (h0 : 0 ≤ n) (h1 : n ≤ 18446744073709551615) : IntKind.u64.wrap n = n := by
 simp only [IntKind.wrap, IntKind.bits, IntKind.signed, Bool.false_and, Bool.false_eq_true, if_false]
 omega
theorem spec_map_l0 (w : List Int) (s : Int) (hx : 2 ≤ w.length ∧ w.length ≤ 12) : ∀ (d k i : Nat) (m : List Int), i + d = 9 → 1 ≤ i → d + 50 < k → m.length = 2 * w.length → spec_l18Map.l0 k w s (w.length : Int) m (i : Int) = some (mapF w s d i m) := by
 intro d
 induction d with
 | zero =>
  intro k i m hi hi1 hk hm
  obtain ⟨k, rfl⟩ : ∃ m, k = m + 1 := ⟨k - 1, by omega⟩
  unfold spec_l18Map.l0
  rw [if_neg (by omega)]
  rfl
 | succ d ih =>
  intro k i m hi hi1 hk hm
  obtain ⟨k, rfl⟩ : ∃ m, k = m + 1 := ⟨k - 1, by omega⟩
  unfold spec_l18Map.l0
  rw [if_pos (by omega), spec_places w (by omega) _ k (by omega), Option.bind_some, w_id (a := (i : Int) + 1) (by omega) (by omega), show ((i : Int) + 1) = ((i + 1 : Nat) : Int) by omega]
  simp only [mapF]
  have hlen := crossM_len w s m (i : Int)
  rcases pl_bd w (i : Int) with h | ⟨h1, h2⟩
  ·have e : crossM w s m (i : Int) = m := by
    unfold crossM
    rw [h]
    rfl
   rw [h, if_pos (by decide), e, ih k (i + 1) m (by omega) (by omega) (by omega) hm]
  ·have p1 := pr_bd h1.1 (show (pl w (i : Int)).1 < (w.length : Int) by omega)
   have p2 := pr_bd (show 0 ≤ (pl w (i : Int)).2 by omega) h2
   have hc : ∀ m', m' = crossM w s m (i : Int) → spec_l18Map.l0 k w s (w.length : Int) m' ((i + 1 : Nat) : Int) = some (mapF w s d (i + 1) (crossM w s m (i : Int))) := by
    intro m' e
    rw [e]
    exact ih k (i + 1) _ (by omega) (by omega) (by omega) (by omega)
   rw [if_neg (by omega), if_neg (by omega)]
   simp only [Option.bind_some]
   rw [w_id (a := 2 * (pl w (i : Int)).1) (by omega) (by omega), w_id (a := 2 * (pl w (i : Int)).2) (by omega) (by omega), w_id (a := (pl w (i : Int)).1 + w.length) (by omega) (by omega), w_id (a := (pl w (i : Int)).1 + w.length - 1) (by omega) (by omega), pr_spec h1.1 (by omega),
    w_id (a := (pl w (i : Int)).2 + w.length) (by omega) (by omega), w_id (a := (pl w (i : Int)).2 + w.length - 1) (by omega) (by omega), pr_spec (show 0 ≤ (pl w (i : Int)).2 by omega) h2, w_id (a := 2 * pr (pl w (i : Int)).1 w.length) (by omega) (by omega), w_id (a := 2 * pr (pl w (i : Int)).2 w.length) (by omega) (by omega),
    w_id (a := 2 * pr (pl w (i : Int)).1 w.length + 1) (by omega) (by omega), w_id (a := 2 * pr (pl w (i : Int)).2 w.length + 1) (by omega) (by omega), w_id (a := (i : Int) - 1) (by omega) (by omega), u64_w (by omega) (by omega), if_pos (by omega)]
   by_cases hb : bitOf s (i : Int) = 1
   ·rw [if_pos (show Go.bits .and .i64 (shr .i64 s ((i : Int) - 1)) 1 = 1 from hb), if_pos (by rw [List.length_cons, List.length_cons, List.length_cons, List.length_singleton]; decide), if_pos (by rw [List.length_cons, List.length_cons, List.length_cons, List.length_singleton]; decide), if_pos (by rw [List.length_cons, List.length_cons, List.length_cons, List.length_singleton]; decide), if_pos (by rw [List.length_cons, List.length_cons, List.length_cons, List.length_singleton]; decide)]
    rw [show ∀ a b c d : Int, rd [a, b, c, d] 3 = d from fun _ _ _ _ => rfl, show ∀ a b c d : Int, rd [a, b, c, d] 2 = c from fun _ _ _ _ => rfl, show ∀ a b c d : Int, rd [a, b, c, d] 1 = b from fun _ _ _ _ => rfl, show ∀ a b c d : Int, rd [a, b, c, d] 0 = a from fun _ _ _ _ => rfl]
    rw [spec_ring m _ _ _ _ (by omega) (by omega) (by omega) (by omega) k (by omega), Option.bind_some]
    apply hc
    unfold crossM
    rw [if_neg (by omega), if_pos hb]
   ·rw [if_neg (show ¬ Go.bits .and .i64 (shr .i64 s ((i : Int) - 1)) 1 = 1 from hb), spec_ring m _ _ _ _ (by omega) (by omega) (by omega) (by omega) k (by omega), Option.bind_some]
    apply hc
    unfold crossM
    rw [if_neg (by omega), if_neg hb]
def mapR (w : List Int) (s : Int) : List Int := mapF w s 8 1 (List.replicate (2 * w.length) 0)
theorem mapF_len (w : List Int) (s : Int) : ∀ n i m, (mapF w s n i m).length = m.length
 | 0, _, _ => rfl
 | n + 1, i, m => by rw [mapF, mapF_len w s n, crossM_len]
theorem mapR_len (w : List Int) (s : Int) : (mapR w s).length = 2 * w.length := by
 unfold mapR
 rw [mapF_len]
 simp
theorem spec_map (w : List Int) (s : Int) (hx : 2 ≤ w.length ∧ w.length ≤ 12) (k : Nat) (hk : 60 < k) : spec_l18Map.f k w s = some (mapR w s) := by
 unfold spec_l18Map.f mapR
 rw [w_id (by omega) (by omega), if_pos (by omega), if_pos (by omega), show (2 * (w.length : Int)).toNat = 2 * w.length by omega]
 exact spec_map_l0 w s hx 8 k 1 _ (by omega) (by omega) (by omega) (by simp)
theorem set3 (m : List Int) {i j k : Nat} (x y z : Int) (h1 : i ≠ j) (h2 : i ≠ k) (h3 : j ≠ k) : ((m.set i x).set j y).set k z = ((m.set k z).set j y).set i x := by
 apply List.ext_getElem
 ·simp
 ·intro n h4 h5
  simp only [List.getElem_set]
  repeat' split
  all_goals first | rfl | omega
theorem impl_map_l1 (w : List Int) (s : Int) (n : Int) (a b c d : Int) (x : Int) (L : List Int) (LL j : Int) (m : List Int) (hx : 1 ≤ x ∧ x ≤ 8) (hj : 0 ≤ j ∧ j ≤ 100) (ha : 0 ≤ a ∧ a < m.length) (hb : 0 ≤ b ∧ b < m.length) (hc : 0 ≤ c ∧ c < m.length) (hd : 0 ≤ d ∧ d < m.length)
  (hne : a ≠ b ∧ a ≠ c ∧ a ≠ d ∧ b ≠ c ∧ b ≠ d ∧ c ≠ d) (k : Nat) :
  impl_crossingMap.l1 (k + 5) w s n m x [a, b, c, d] L LL j 0 = impl_crossingMap.l0 k w s n (if bitOf s x = 1 then ring4 m d c b a else ring4 m a b c d) L LL (j + 1) := by
 have e0 : Int.tmod (wrap64 (0 + 1)) 4 = 1 := by decide +kernel
 have e1 : Int.tmod (wrap64 (1 + 1)) 4 = 2 := by decide +kernel
 have e2 : Int.tmod (wrap64 (2 + 1)) 4 = 3 := by decide +kernel
 have e3 : Int.tmod (wrap64 (3 + 1)) 4 = 0 := by decide +kernel
 have w0 : wrap64 (0 + 1) = 1 := by decide +kernel
 have w1 : wrap64 (1 + 1) = 2 := by decide +kernel
 have w2 : wrap64 (2 + 1) = 3 := by decide +kernel
 have w3 : wrap64 (3 + 1) = 4 := by decide +kernel
 have r0 : rd [a, b, c, d] 0 = a := rfl
 have r1 : rd [a, b, c, d] 1 = b := rfl
 have r2 : rd [a, b, c, d] 2 = c := rfl
 have r3 : rd [a, b, c, d] 3 = d := rfl
 have l4 : (([a, b, c, d] : List Int).length : Int) = 4 := rfl
 have hw : wrap64 (x - 1) = x - 1 := w_id (by omega) (by omega)
 have hj1 : wrap64 (j + 1) = j + 1 := w_id (by omega) (by omega)
 have hL : ∀ (m' : List Int) (k' : Nat), impl_crossingMap.l1 (k' + 1) w s n m' x [a, b, c, d] L LL j 4 = impl_crossingMap.l0 k' w s n m' L LL (j + 1) := by
  intro m' k'
  conv => lhs; unfold impl_crossingMap.l1
  rw [if_neg (by decide), hj1]
 by_cases hbit : bitOf s x = 1
 ·have hB : Go.bits .and .i64 (shr .i64 s (x - 1)) 1 = 1 := hbit
  have step : ∀ (m' : List Int) (k' : Nat) (i i' : Int), 0 ≤ i → i < 4 → 0 ≤ i' → i' < 4 → Int.tmod (wrap64 (i + 1)) 4 = i' → 0 ≤ rd [a, b, c, d] i' → rd [a, b, c, d] i' < m'.length →
    impl_crossingMap.l1 (k' + 1) w s n m' x [a, b, c, d] L LL j i = impl_crossingMap.l1 k' w s n (m'.set (rd [a, b, c, d] i').toNat (rd [a, b, c, d] i)) x [a, b, c, d] L LL j (wrap64 (i + 1)) := by
   intro m' k' i i' h0 h1 h2 h3 he h4 h5
   conv => lhs; unfold impl_crossingMap.l1
   rw [l4, he, hw, if_pos h1, if_pos h0, if_pos h1, if_pos h2, if_pos h3, if_pos (by omega), if_pos hB, if_pos h4, if_pos h5]
  rw [if_pos hbit, step m (k + 4) 0 1 (by decide) (by decide) (by decide) (by decide) e0 (by rw [r1]; exact hb.1) (by rw [r1]; exact hb.2), w0, r1, r0,
   step _ (k + 3) 1 2 (by decide) (by decide) (by decide) (by decide) e1 (by rw [r2]; exact hc.1) (by rw [r2, List.length_set]; exact hc.2), w1, r2, r1,
   step _ (k + 2) 2 3 (by decide) (by decide) (by decide) (by decide) e2 (by rw [r3]; exact hd.1) (by rw [r3, List.length_set, List.length_set]; exact hd.2), w2, r3, r2,
   step _ (k + 1) 3 0 (by decide) (by decide) (by decide) (by decide) e3 (by rw [r0]; exact ha.1) (by rw [r0, List.length_set, List.length_set, List.length_set]; exact ha.2), w3, r0, r3, hL]
  unfold ring4
  rw [set3 m (i := d.toNat) (j := c.toNat) (k := b.toNat) _ _ _ (by omega) (by omega) (by omega)]
 ·have hB : ¬ Go.bits .and .i64 (shr .i64 s (x - 1)) 1 = 1 := hbit
  have step : ∀ (m' : List Int) (k' : Nat) (i i' : Int), 0 ≤ i → i < 4 → 0 ≤ i' → i' < 4 → Int.tmod (wrap64 (i + 1)) 4 = i' → 0 ≤ rd [a, b, c, d] i → rd [a, b, c, d] i < m'.length →
    impl_crossingMap.l1 (k' + 1) w s n m' x [a, b, c, d] L LL j i = impl_crossingMap.l1 k' w s n (m'.set (rd [a, b, c, d] i).toNat (rd [a, b, c, d] i')) x [a, b, c, d] L LL j (wrap64 (i + 1)) := by
   intro m' k' i i' h0 h1 h2 h3 he h4 h5
   conv => lhs; unfold impl_crossingMap.l1
   rw [l4, he, hw, if_pos h1, if_pos h0, if_pos h1, if_pos h2, if_pos h3, if_pos (by omega), if_neg hB, if_pos h4, if_pos h5]
  rw [if_neg hbit, step m (k + 4) 0 1 (by decide) (by decide) (by decide) (by decide) e0 (by rw [r0]; exact ha.1) (by rw [r0]; exact ha.2), w0, r1, r0,
   step _ (k + 3) 1 2 (by decide) (by decide) (by decide) (by decide) e1 (by rw [r1]; exact hb.1) (by rw [r1, List.length_set]; exact hb.2), w1, r2, r1,
   step _ (k + 2) 2 3 (by decide) (by decide) (by decide) (by decide) e2 (by rw [r2]; exact hc.1) (by rw [r2, List.length_set, List.length_set]; exact hc.2), w2, r3, r2,
   step _ (k + 1) 3 0 (by decide) (by decide) (by decide) (by decide) e3 (by rw [r3]; exact hd.1) (by rw [r3, List.length_set, List.length_set, List.length_set]; exact hd.2), w3, r0, r3, hL]
  rfl
theorem impl_map_l0 {w : List Int} (h : cw w = true) (s : Int) (L : List Int) (hL : L.length ≤ 20) (hLw : ∀ x ∈ L, x ∈ w) : ∀ (d k i : Nat) (m : List Int), i + d = L.length → 8 * d + 50 < k → m.length = 2 * w.length → impl_crossingMap.l0 k w s (w.length : Int) m L (L.length : Int) (i : Int) = some ((L.drop i).foldl (crossM w s) m) := by
 intro d
 obtain ⟨h1, hw⟩ := cw_true h
 induction d with
 | zero =>
  intro k i m hi hk hm
  obtain ⟨k, rfl⟩ : ∃ m, k = m + 1 := ⟨k - 1, by omega⟩
  conv => lhs; unfold impl_crossingMap.l0
  rw [if_neg (by omega), List.drop_of_length_le (by omega)]
  rfl
 | succ d ih =>
  intro k i m hi hk hm
  obtain ⟨k, rfl⟩ : ∃ m, k = m + 6 := ⟨k - 6, by omega⟩
  have hlt : i < L.length := by omega
  have hm1 := hLw L[i] (List.getElem_mem hlt)
  have hxb := hw L[i] hm1
  have hi0 : 0 ≤ idx w L[i] := (idx_mem w L[i]).2 hm1
  have hi2 := second (cw_pos h) (cw_two h L[i]) hi0
  have hpl : ¬ (pl w L[i]).1 < 0 := by
   unfold pl
   rw [if_neg (by omega), if_neg (by omega)]
   simp only
   omega
  rcases pl_bd w L[i] with hb | ⟨hb1, hb2⟩
  ·rw [hb] at hpl; simp at hpl
  have p1 := pr_bd hb1.1 (show (pl w L[i]).1 < (w.length : Int) by omega)
  have p2 := pr_bd (show 0 ≤ (pl w L[i]).2 by omega) hb2
  have p3 := pr_inj (n := w.length) ⟨hb1.1, show (pl w L[i]).1 < (w.length : Int) by omega⟩ ⟨show 0 ≤ (pl w L[i]).2 by omega, hb2⟩ (by omega)
  rw [show k + 6 = (k + 5) + 1 from rfl]
  conv => lhs; unfold impl_crossingMap.l0
  rw [if_pos (by omega), if_pos (by omega), if_pos (by omega), rd_nat L i hlt, impl_places w (by omega) L[i] (cw_pos h) (cw_two h L[i]) _ (by omega), Option.bind_some, w_id (a := (pl w L[i]).1 - 1) (by omega) (by omega), w_id (a := (pl w L[i]).2 - 1) (by omega) (by omega),
   pr_impl hb1.1 (by omega) (by omega) (by omega), Option.bind_some, pr_impl (show 0 ≤ (pl w L[i]).2 by omega) hb2 (by omega) (by omega), Option.bind_some, w_id (a := 2 * (pl w L[i]).1) (by omega) (by omega), w_id (a := 2 * (pl w L[i]).2) (by omega) (by omega),
   w_id (a := 2 * pr (pl w L[i]).1 w.length) (by omega) (by omega), w_id (a := 2 * pr (pl w L[i]).2 w.length) (by omega) (by omega), w_id (a := 2 * pr (pl w L[i]).1 w.length + 1) (by omega) (by omega), w_id (a := 2 * pr (pl w L[i]).2 w.length + 1) (by omega) (by omega)]
  rw [impl_map_l1 w s (w.length : Int) _ _ _ _ L[i] L (L.length : Int) (i : Int) m hxb.1 (by omega) (by omega) (by omega) (by omega) (by omega) (by omega) k]
  have e : (if bitOf s L[i] = 1 then ring4 m (2 * pr (pl w L[i]).2 w.length + 1) (2 * pr (pl w L[i]).1 w.length + 1) (2 * (pl w L[i]).2) (2 * (pl w L[i]).1) else ring4 m (2 * (pl w L[i]).1) (2 * (pl w L[i]).2) (2 * pr (pl w L[i]).1 w.length + 1) (2 * pr (pl w L[i]).2 w.length + 1)) = crossM w s m L[i] := by
   unfold crossM
   rw [if_neg hpl]
  rw [e, show ((i : Int) + 1) = ((i + 1 : Nat) : Int) by omega, ih k (i + 1) _ (by omega) (by omega) (by rw [crossM_len]; exact hm), List.drop_eq_getElem_cons hlt]
  rfl
theorem crossM_none {w : List Int} (h : cw w = true) (s : Int) (m : List Int) {x : Int} (hc : ¬ cnt w x > 0) : crossM w s m x = m := by
 have hb := cnt_bd w x
 have hx : x ∉ w := fun hx => by have := cw_two h x hx; omega
 have hi : idx w x < 0 := by
  rcases Int.lt_or_le (idx w x) 0 with h2 | h2
  ·exact h2
  ·exact absurd ((idx_mem w x).1 h2) hx
 unfold crossM pl
 rw [if_pos hi, if_pos (by decide)]
theorem mapF_fold {w : List Int} (h : cw w = true) (s : Int) : ∀ n i m, mapF w s n i m = (lettersF w n i).foldl (crossM w s) m
 | 0, _, _ => rfl
 | n + 1, i, m => by
  rw [mapF, lettersF, mapF_fold h s n (i + 1)]
  split
  ·rfl
  ·rename_i hc
   rw [crossM_none h s m hc]
theorem letters_mem {w : List Int} (h : cw w = true) : ∀ x ∈ letters w, x ∈ w := by
 intro x hx
 have h1 := lettersF_pos 9 0 x hx
 have h2 := cw_cnt h x
 refine (cw_mem h x).2 ⟨?_, by omega⟩
 obtain ⟨y, hy, e⟩ := (cnt_ne w x).1 (by omega)
 have := cw_pos h y hy
 omega
theorem impl_map {w : List Int} (h : cw w = true) (s : Int) (k : Nat) (hk : 200 < k) : impl_crossingMap.f k w s = some (mapR w s) := by
 obtain ⟨h1, _⟩ := cw_true h
 have hll : (letters w).length ≤ 9 := lettersF_len w 9 0
 unfold impl_crossingMap.f mapR
 rw [w_id (by omega) (by omega), if_pos (by omega), if_pos (by omega), show (2 * (w.length : Int)).toNat = 2 * w.length by omega, impl_letters h k (by omega), Option.bind_some, mapF_fold h, ← letters_tail h]
 have := impl_map_l0 h s (letters w) (by omega) (letters_mem h) (letters w).length k 0 (List.replicate (2 * w.length) 0) (by omega) (by omega) (by simp)
 rw [List.drop_zero] at this
 exact this
def cmapR (w : List Int) (s : Int) : List Int × Bool := if cw w = true ∧ 0 ≤ s ∧ s ≤ 255 then (mapR w s, true) else ([], false)
theorem cmapR_len (w : List Int) (s : Int) : (cmapR w s).1.length ≤ 24 := by
 unfold cmapR
 split
 ·rename_i h
  obtain ⟨h1, _⟩ := cw_true h.1
  rw [mapR_len]
  omega
 ·simp
theorem spec_cmap (w : List Int) (hx : w.length ≤ 1048576) (s : Int) (k : Nat) (hk : 1048577 < k) : spec_CrossingMap.f k w s = some (cmapR w s) := by
 unfold spec_CrossingMap.f cmapR
 rw [spec_cw w hx k hk, Option.bind_some, l1In_eq, Option.bind_some]
 by_cases h : cw w = true
 ·obtain ⟨h1, _⟩ := cw_true h
  rw [if_pos h]
  by_cases h2 : 0 ≤ s ∧ s ≤ 255
  ·rw [if_pos (decide_eq_true h2), if_pos ⟨h, h2⟩, spec_map w s h1 k (by omega)]
   rfl
  ·rw [if_neg (by simpa using h2), if_neg (fun h => h2 h.2)]
 ·rw [if_neg h, if_neg (fun h' => h h'.1)]
theorem impl_cmap (w : List Int) (hx : w.length ≤ 1048576) (s : Int) (k : Nat) (hk : 1048577 < k) : impl_CrossingMap.f k w s = some (cmapR w s) := by
 unfold impl_CrossingMap.f cmapR
 rw [impl_cw w hx k hk, Option.bind_some, within_eq, Option.bind_some]
 by_cases h : cw w = true
 ·rw [if_pos h]
  by_cases h2 : 0 ≤ s ∧ s ≤ 255
  ·rw [if_pos (decide_eq_true h2), if_pos ⟨h, h2⟩, impl_map h s k (by omega)]
   rfl
  ·rw [if_neg (by simpa using h2), if_neg (fun h => h2 h.2)]
 ·rw [if_neg h, if_neg (fun h' => h h'.1)]
end Go.Proofs.Ytkmjcdlhlhefdaa.L


namespace Go.Proofs.Ytkmjcdlhlhefdaa.L
open Go.RowKit Go.Proofs.Ytkmjcdlhlhefdaa.P Go.Proofs.Ytkmjcdlhlhefdaa.Help Go.Proofs.YtkmjcdlhlhefdaaW.PrintWords
set_option linter.unusedVariables false
set_option linter.unusedSimpArgs false

theorem cnt_drop_le (w : List Int) (x : Int) {a b : Nat} (h : a ≤ b) : cnt (w.drop b) x ≤ cnt (w.drop a) x := by
 have e : w.drop a = (w.drop a).take (b - a) ++ w.drop b := by
  conv => lhs; rw [← List.take_append_drop (b - a) (w.drop a)]
  rw [List.drop_drop, show a + (b - a) = b by omega]
 rw [e, cnt_append]
 have := cnt_bd ((w.drop a).take (b - a)) x
 omega
theorem cnt_drop_at (w : List Int) {x : Int} (hx : 1 ≤ x) {i : Nat} (h : i < w.length) (e : w[i] = x) : cnt (w.drop i) x = 1 + cnt (w.drop (i + 1)) x := by
 rw [List.drop_eq_getElem_cons h, cnt, e, if_pos (by omega)]
theorem cnt_three (w : List Int) {x : Int} (hx : 1 ≤ x) {i j l : Nat} (hi : i < j) (hj : j < l) (hl : l < w.length) (e1 : w[i] = x) (e2 : w[j] = x) (e3 : w[l] = x) : 3 ≤ cnt w x := by
 have a1 := cnt_drop_at w hx (by omega) e1
 have a2 := cnt_drop_at w hx (by omega) e2
 have a3 := cnt_drop_at w hx hl e3
 have b0 := cnt_drop_le w x (Nat.zero_le i)
 have b1 := cnt_drop_le w x (show i + 1 ≤ j by omega)
 have b2 := cnt_drop_le w x (show j + 1 ≤ l by omega)
 have b3 := cnt_bd (w.drop (l + 1)) x
 rw [List.drop_zero] at b0
 omega
/-- Both places of a letter: they are its places. -/
theorem pl_at {w : List Int} (hw : ∀ y ∈ w, 1 ≤ y) (h2 : ∀ y ∈ w, cnt w y = 2) {x : Int} (hx : x ∈ w) :
  ∃ p q : Nat, pl w x = ((p : Int), (q : Int)) ∧ p < q ∧ q < w.length ∧ (∀ i : Nat, (h : i < w.length) → (w[i] = x ↔ i = p ∨ i = q)) := by
 have h0 := (idx_mem w x).2 hx
 have hs := second hw (fun _ => h2 x hx) h0
 have hb := idx_bd w x
 obtain ⟨p, hp⟩ : ∃ p : Nat, idx w x = (p : Int) := ⟨(idx w x).toNat, by omega⟩
 have hpt : (idx w x).toNat = p := by omega
 rw [hpt] at hs
 have hb2 := idx_bd (w.drop (p + 1)) x
 rw [List.length_drop] at hb2
 obtain ⟨r, hr⟩ : ∃ r : Nat, idx (w.drop (p + 1)) x = (r : Int) := ⟨(idx (w.drop (p + 1)) x).toNat, by omega⟩
 have hpl : p < w.length := by omega
 have hq : p + 1 + r < w.length := by omega
 have wp : w[p] = x := by
  have h3 := idx_at w x h0 (by omega)
  have e : w[(idx w x).toNat]'(by omega) = w[p] := by congr 1
  rw [← e]; exact h3
 have hrt : (idx (w.drop (p + 1)) x).toNat = r := by omega
 have wq : w[p + 1 + r] = x := by
  have h3 := idx_at (w.drop (p + 1)) x (by omega) (by rw [List.length_drop]; omega)
  rw [List.getElem_drop] at h3
  have e : w[p + 1 + (idx (w.drop (p + 1)) x).toNat]'(by omega) = w[p + 1 + r] := by congr 1; omega
  rw [← e]; exact h3
 have hx1 := hw x hx
 refine ⟨p, p + 1 + r, ?_, by omega, hq, ?_⟩
 ·unfold pl
  rw [hpt, hp, if_neg (by omega), hr, if_neg (by omega)]
  congr 1
 ·intro i h
  constructor
  ·intro e
   by_cases c1 : i = p
   ·exact .inl c1
   ·by_cases c2 : i = p + 1 + r
    ·exact .inr c2
    ·exfalso
     have c := h2 x hx
     rcases Nat.lt_or_gt_of_ne c1 with d | d
     ·have := cnt_three w hx1 d (show p < p + 1 + r by omega) hq e wp wq
      omega
     ·rcases Nat.lt_or_gt_of_ne c2 with f | f
      ·have := cnt_three w hx1 d f hq wp e wq
       omega
      ·have := cnt_three w hx1 (show p < p + 1 + r by omega) f h wp wq e
       omega
  ·rintro (c | c)
   ·subst c; exact wp
   ·subst c; exact wq
def prN (p n : Nat) : Nat := if p = 0 then n - 1 else p - 1
theorem prN_eq {p n : Nat} (h : p < n) : pr (p : Int) (n : Int) = (prN p n : Int) := by
 unfold pr prN
 split <;> split <;> omega
theorem prN_bd {p n : Nat} (h : p < n) : prN p n < n := by
 unfold prN
 split <;> omega
theorem prN_inj {p q n : Nat} (h1 : p < n) (h2 : q < n) (h : p ≠ q) : prN p n ≠ prN q n := by
 unfold prN
 split <;> split <;> omega
theorem prN_iff {p i n : Nat} (hp : p < n) (hi : i < n) : (i + 1) % n = p ↔ i = prN p n := by
 unfold prN
 by_cases h : i + 1 = n
 ·rw [h, Nat.mod_self]
  split <;> omega
 ·rw [Nat.mod_eq_of_lt (by omega)]
  split <;> omega
/-- The letter at a dart. -/
def lam (w : List Int) (d : Nat) : Int := if d % 2 = 0 then w.getD (d / 2) 0 else w.getD ((d / 2 + 1) % w.length) 0
theorem getD_at {w : List Int} {i : Nat} (h : i < w.length) : w.getD i 0 = w[i] := by
 rw [List.getD_eq_getElem?_getD, List.getElem?_eq_getElem h]
 rfl
theorem lam_mem {w : List Int} {d : Nat} (h : d < 2 * w.length) : lam w d ∈ w := by
 unfold lam
 split
 ·rw [getD_at (show d / 2 < w.length by omega)]; exact List.getElem_mem _
 ·have : (d / 2 + 1) % w.length < w.length := Nat.mod_lt _ (by omega)
  rw [getD_at this]; exact List.getElem_mem _
theorem lam_iff {w : List Int} {x : Int} {p q : Nat} (hp : p < w.length) (hq : q < w.length) (hpq : ∀ i : Nat, (h : i < w.length) → (w[i] = x ↔ i = p ∨ i = q)) {d : Nat} (h : d < 2 * w.length) :
  lam w d = x ↔ d = 2 * p ∨ d = 2 * q ∨ d = 2 * prN p w.length + 1 ∨ d = 2 * prN q w.length + 1 := by
 unfold lam
 split
 ·rename_i he
  have hd : d / 2 < w.length := by omega
  rw [getD_at hd, hpq _ hd]
  constructor
  ·rintro (c | c)
   ·left; omega
   ·right; left; omega
  ·rintro (c | c | c | c)
   ·left; omega
   ·right; omega
   ·omega
   ·omega
 ·rename_i he
  have hd : d / 2 < w.length := by omega
  have hm : (d / 2 + 1) % w.length < w.length := Nat.mod_lt _ (by omega)
  rw [getD_at hm, hpq _ hm, prN_iff hp hd, prN_iff hq hd]
  constructor
  ·rintro (c | c)
   ·right; right; left; omega
   ·right; right; right; omega
  ·rintro (c | c | c | c)
   ·omega
   ·omega
   ·left; omega
   ·right; omega
/-- What follows in a ring of four. -/
def nxr (b : Bool) (r0 r1 r2 r3 d : Nat) : Nat :=
 if b = true then (if d = r3 then r2 else if d = r2 then r1 else if d = r1 then r0 else r3)
 else (if d = r0 then r1 else if d = r1 then r2 else if d = r2 then r3 else r0)
theorem gs (l : List Int) (i j : Nat) (v : Int) (h : i < l.length) : (l.set i v).getD j 0 = if j = i then v else l.getD j 0 := by
 rw [List.getD_eq_getElem?_getD, List.getD_eq_getElem?_getD]
 by_cases e : j = i
 ·subst e
  rw [List.getElem?_set_self h, if_pos rfl]
  rfl
 ·rw [List.getElem?_set_ne (fun c => e c.symm), if_neg e]
theorem ring_at (m : List Int) (a b c d : Nat) (ha : a < m.length) (hb : b < m.length) (hc : c < m.length) (hd : d < m.length) (i : Nat) :
  (ring4 m (a : Int) (b : Int) (c : Int) (d : Int)).getD i 0 = if i = d then (a : Int) else if i = c then (d : Int) else if i = b then (c : Int) else if i = a then (b : Int) else m.getD i 0 := by
 unfold ring4
 simp only [Int.toNat_natCast]
 rw [gs _ _ _ _ (by simp; exact hd), gs _ _ _ _ (by simp; exact hc), gs _ _ _ _ (by simp; exact hb), gs _ _ _ _ ha]
/-- The dart behind a dart. -/
def nx (w : List Int) (s : Int) (d : Nat) : Nat :=
 nxr (decide (bitOf s (lam w d) = 1)) (2 * (pl w (lam w d)).1.toNat) (2 * (pl w (lam w d)).2.toNat) (2 * prN (pl w (lam w d)).1.toNat w.length + 1) (2 * prN (pl w (lam w d)).2.toNat w.length + 1) d
theorem cross_at {w : List Int} (hw : ∀ y ∈ w, 1 ≤ y) (h2 : ∀ y ∈ w, cnt w y = 2) (s : Int) (m : List Int) (hm : m.length = 2 * w.length) {x : Int} (hx : x ∈ w) {d : Nat} (hd : d < 2 * w.length) :
  (crossM w s m x).getD d 0 = if lam w d = x then (nx w s d : Int) else m.getD d 0 := by
 obtain ⟨p, q, e, pq, ql, hpq⟩ := pl_at hw h2 hx
 have hp : p < w.length := by omega
 have b1 := prN_bd hp
 have b2 := prN_bd ql
 have b3 := prN_inj hp ql (by omega)
 have li := lam_iff hp ql hpq hd
 unfold crossM
 rw [e]
 dsimp only
 rw [if_neg (by omega), prN_eq hp, prN_eq ql, show (2 * (p : Int)) = ((2 * p : Nat) : Int) by omega, show (2 * (q : Int)) = ((2 * q : Nat) : Int) by omega, show (2 * (prN p w.length : Int) + 1) = ((2 * prN p w.length + 1 : Nat) : Int) by omega, show (2 * (prN q w.length : Int) + 1) = ((2 * prN q w.length + 1 : Nat) : Int) by omega]
 by_cases hl : lam w d = x
 ·rw [if_pos hl]
  unfold nx
  rw [hl, e]
  dsimp only
  simp only [Int.toNat_natCast]
  have li' := li.1 hl
  by_cases hb : bitOf s x = 1
  ·rw [if_pos hb, ring_at _ _ _ _ _ (by omega) (by omega) (by omega) (by omega)]
   simp only [nxr, hb, decide_true, if_true]
   generalize prN p w.length = u at *
   generalize prN q w.length = v at *
   repeat' split
   all_goals first | rfl | omega
  ·rw [if_neg hb, ring_at _ _ _ _ _ (by omega) (by omega) (by omega) (by omega)]
   simp only [nxr, hb, decide_false, Bool.false_eq_true, if_false]
   generalize prN p w.length = u at *
   generalize prN q w.length = v at *
   repeat' split
   all_goals first | rfl | omega
 ·rw [if_neg hl]
  have nl : ¬ (d = 2 * p ∨ d = 2 * q ∨ d = 2 * prN p w.length + 1 ∨ d = 2 * prN q w.length + 1) := fun c => hl (li.2 c)
  by_cases hb : bitOf s x = 1
  ·rw [if_pos hb, ring_at _ _ _ _ _ (by omega) (by omega) (by omega) (by omega), if_neg (by omega), if_neg (by omega), if_neg (by omega), if_neg (by omega)]
  ·rw [if_neg hb, ring_at _ _ _ _ _ (by omega) (by omega) (by omega) (by omega), if_neg (by omega), if_neg (by omega), if_neg (by omega), if_neg (by omega)]
theorem fold_at {w : List Int} (hw : ∀ y ∈ w, 1 ≤ y) (h2 : ∀ y ∈ w, cnt w y = 2) (s : Int) {d : Nat} (hd : d < 2 * w.length) : ∀ (L : List Int) (m : List Int), m.length = 2 * w.length → (∀ x ∈ L, x ∈ w) → L.Nodup →
  (L.foldl (crossM w s) m).getD d 0 = if lam w d ∈ L then (nx w s d : Int) else m.getD d 0
 | [], m, _, _, _ => by simp
 | x :: L, m, hm, hL, hn => by
  have hn' := List.nodup_cons.1 hn
  rw [List.foldl_cons, fold_at hw h2 s hd L _ (by rw [crossM_len]; exact hm) (fun y hy => hL y (List.mem_cons_of_mem _ hy)) hn'.2, cross_at hw h2 s m hm (hL x List.mem_cons_self) hd]
  by_cases c : lam w d ∈ L
  ·rw [if_pos c, if_pos (List.mem_cons_of_mem _ c)]
  ·rw [if_neg c]
   by_cases c2 : lam w d = x
   ·rw [if_pos c2, if_pos (by rw [c2]; exact List.mem_cons_self)]
   ·rw [if_neg c2, if_neg (fun c3 => by rcases List.mem_cons.1 c3 with c4 | c4; exact c2 c4; exact c c4)]
theorem lettersF_nodup (w : List Int) : ∀ n i, (lettersF w n i).Nodup
 | 0, _ => by simp [lettersF]
 | n + 1, i => by
  rw [lettersF]
  split
  ·refine List.nodup_cons.2 ⟨fun h => ?_, lettersF_nodup w n (i + 1)⟩
   have := lettersF_pos n (i + 1) _ h
   omega
  ·exact lettersF_nodup w n (i + 1)
theorem lettersF_has {w : List Int} {x : Int} (hc : cnt w x > 0) : ∀ n i : Nat, (i : Int) ≤ x → x < (i + n : Nat) → x ∈ lettersF w n i
 | 0, i, h1, h2 => by omega
 | n + 1, i, h1, h2 => by
  rw [lettersF]
  by_cases e : x = (i : Int)
  ·subst e
   rw [if_pos hc]
   exact List.mem_cons_self
  ·have ih := lettersF_has hc n (i + 1) (by omega) (by omega)
   split
   ·exact List.mem_cons_of_mem _ ih
   ·exact ih
theorem letters_iff {w : List Int} (h : cw w = true) {x : Int} (hx : x ∈ w) : x ∈ letters w := by
 have h1 := (cw_true h).2 x hx
 exact lettersF_has (by omega) 9 0 (by omega) (by omega)
/-- The map, dart by dart. -/
theorem mapR_at {w : List Int} (h : cw w = true) (s : Int) {d : Nat} (hd : d < 2 * w.length) : (mapR w s).getD d 0 = (nx w s d : Int) := by
 have hm := lam_mem hd
 unfold mapR
 rw [mapF_fold h, ← letters_tail h, fold_at (cw_pos h) (cw_two h) s hd _ _ (by simp) (letters_mem h) (lettersF_nodup w 9 0), if_pos (letters_iff h hm)]
theorem nxr_in {b : Bool} {r0 r1 r2 r3 d : Nat} : nxr b r0 r1 r2 r3 d = r0 ∨ nxr b r0 r1 r2 r3 d = r1 ∨ nxr b r0 r1 r2 r3 d = r2 ∨ nxr b r0 r1 r2 r3 d = r3 := by
 unfold nxr
 repeat' split
 all_goals simp
theorem nxr_inj {b : Bool} {r0 r1 r2 r3 d e : Nat} (h01 : r0 ≠ r1) (h02 : r0 ≠ r2) (h03 : r0 ≠ r3) (h12 : r1 ≠ r2) (h13 : r1 ≠ r3) (h23 : r2 ≠ r3) (hd : d = r0 ∨ d = r1 ∨ d = r2 ∨ d = r3) (he : e = r0 ∨ e = r1 ∨ e = r2 ∨ e = r3) (h : nxr b r0 r1 r2 r3 d = nxr b r0 r1 r2 r3 e) : d = e := by
 unfold nxr at h
 repeat' split at h
 all_goals omega
theorem nx_ring {w : List Int} (h : cw w = true) {d : Nat} (hd : d < 2 * w.length) : ∃ p q : Nat, pl w (lam w d) = ((p : Int), (q : Int)) ∧ p < q ∧ q < w.length ∧ prN p w.length < w.length ∧ prN q w.length < w.length ∧ prN p w.length ≠ prN q w.length ∧
  (∀ s, nx w s d = nxr (decide (bitOf s (lam w d) = 1)) (2 * p) (2 * q) (2 * prN p w.length + 1) (2 * prN q w.length + 1) d) ∧ (∀ e, e < 2 * w.length → (lam w e = lam w d ↔ e = 2 * p ∨ e = 2 * q ∨ e = 2 * prN p w.length + 1 ∨ e = 2 * prN q w.length + 1)) := by
 obtain ⟨p, q, e, pq, ql, hpq⟩ := pl_at (cw_pos h) (cw_two h) (lam_mem hd)
 have hp : p < w.length := by omega
 refine ⟨p, q, e, pq, ql, prN_bd hp, prN_bd ql, prN_inj hp ql (by omega), fun s => ?_, fun f hf => lam_iff hp ql hpq hf⟩
 unfold nx
 rw [e]
 simp only [Int.toNat_natCast]
theorem nx_bd {w : List Int} (h : cw w = true) (s : Int) {d : Nat} (hd : d < 2 * w.length) : nx w s d < 2 * w.length ∧ lam w (nx w s d) = lam w d := by
 obtain ⟨p, q, e, pq, ql, b1, b2, b3, en, hl⟩ := nx_ring h hd
 have hin := @nxr_in (decide (bitOf s (lam w d) = 1)) (2 * p) (2 * q) (2 * prN p w.length + 1) (2 * prN q w.length + 1) d
 rw [← en s] at hin
 have hb : nx w s d < 2 * w.length := by omega
 exact ⟨hb, (hl _ hb).2 hin⟩
theorem nx_inj {w : List Int} (h : cw w = true) (s : Int) {d e : Nat} (hd : d < 2 * w.length) (he : e < 2 * w.length) (hn : nx w s d = nx w s e) : d = e := by
 have l1 := (nx_bd h s hd).2
 have l2 := (nx_bd h s he).2
 have le : lam w e = lam w d := by rw [← l2, ← hn, l1]
 obtain ⟨p, q, ep, pq, ql, b1, b2, b3, en, hl⟩ := nx_ring h hd
 obtain ⟨p', q', ep', _, _, _, _, _, en', _⟩ := nx_ring h he
 rw [le, ep] at ep'
 obtain ⟨e1, e2⟩ := Prod.mk.injEq .. ▸ ep'
 have e1' : p' = p := by omega
 have e2' : q' = q := by omega
 have en2 := en' s
 rw [le, e1', e2', ← hn, en s] at en2
 exact nxr_inj (by omega) (by omega) (by omega) (by omega) (by omega) (by omega) ((hl d hd).1 rfl) ((hl e he).1 le) en2
end Go.Proofs.Ytkmjcdlhlhefdaa.L

namespace Go.Proofs.Ytkmjcdlhlhefdaa.UF
set_option linter.unusedVariables false

/-- The number that a number points to. -/
def P (up : List Int) (i : Int) : Int := up.getD i.toNat 0
/-- The way from i ends at r. -/
inductive Root (up : List Int) : Int → Int → Prop
 | here {r : Int} (h : P up r = r) : Root up r r
 | step {i r : Int} (h : P up i ≠ i) (k : Root up (P up i) r) : Root up i r
theorem Root.root {up : List Int} {i r : Int} (h : Root up i r) : P up r = r := by
 induction h with
 | here h => exact h
 | step _ _ ih => exact ih
theorem Root.uniq {up : List Int} {i r : Int} (h : Root up i r) : ∀ {s : Int}, Root up i s → r = s := by
 induction h with
 | here h =>
  intro s hs
  cases hs with
  | here _ => rfl
  | step h2 _ => exact absurd h h2
 | step h k ih =>
  intro s hs
  cases hs with
  | here h2 => exact absurd h2 h
  | step _ k2 => exact ih k2
/-- A forest: every number points to a number, every way ends. -/
def Ok (up : List Int) : Prop := ∀ i : Int, 0 ≤ i → i < up.length → (0 ≤ P up i ∧ P up i < up.length) ∧ ∃ r, Root up i r
theorem Ok.bd {up : List Int} (h : Ok up) {i r : Int} (hr : Root up i r) : 0 ≤ i → i < up.length → 0 ≤ r ∧ r < up.length := by
 induction hr with
 | here _ => exact fun h0 h1 => ⟨h0, h1⟩
 | step _ _ ih => exact fun h0 h1 => ih (h _ h0 h1).1.1 (h _ h0 h1).1.2
theorem P_set {up : List Int} {a b i : Int} (ha : 0 ≤ a) (ha1 : a < up.length) (hi : 0 ≤ i) : P (up.set a.toNat b) i = if i = a then b else P up i := by
 unfold P
 by_cases h : i = a
 ·subst h
  rw [if_pos rfl, List.getD_eq_getElem?_getD, List.getElem?_set_self (by omega)]
  rfl
 ·rw [if_neg h, List.getD_eq_getElem?_getD, List.getD_eq_getElem?_getD, List.getElem?_set_ne (by omega)]
theorem set_other {up : List Int} (hok : Ok up) {ra rb : Int} (ha : 0 ≤ ra ∧ ra < up.length) (hra : P up ra = ra) {i r : Int} (h : Root up i r) : 0 ≤ i → i < up.length → r ≠ ra → Root (up.set ra.toNat rb) i r := by
 induction h with
 | here h =>
  intro h0 h1 hne
  exact .here (by rw [P_set ha.1 ha.2 h0, if_neg hne]; exact h)
 | @step i r h k ih =>
  intro h0 h1 hne
  have hi : i ≠ ra := fun e => h (by rw [e]; exact hra)
  have hp : P (up.set ra.toNat rb) i = P up i := by rw [P_set ha.1 ha.2 h0, if_neg hi]
  exact .step (by rw [hp]; exact h) (by rw [hp]; exact ih (hok i h0 h1).1.1 (hok i h0 h1).1.2 hne)
theorem set_same {up : List Int} (hok : Ok up) {ra rb : Int} (ha : 0 ≤ ra ∧ ra < up.length) (hb : 0 ≤ rb ∧ rb < up.length) (hra : P up ra = ra) (hrb : P up rb = rb) {i r : Int} (h : Root up i r) : 0 ≤ i → i < up.length → r = ra → Root (up.set ra.toNat rb) i rb := by
 induction h with
 | @here r h =>
  intro h0 h1 e
  subst e
  by_cases hab : r = rb
  ·subst hab
   exact .here (by rw [P_set ha.1 ha.2 h0, if_pos rfl])
  ·have hp : P (up.set r.toNat rb) r = rb := by rw [P_set ha.1 ha.2 h0, if_pos rfl]
   refine .step (by rw [hp]; exact fun e => hab e.symm) ?_
   rw [hp]
   exact set_other hok ha hra (.here hrb) hb.1 hb.2 (fun e => hab e.symm)
 | @step i r h k ih =>
  intro h0 h1 e
  have hi : i ≠ ra := fun e => h (by rw [e]; exact hra)
  have hp : P (up.set ra.toNat rb) i = P up i := by rw [P_set ha.1 ha.2 h0, if_neg hi]
  exact .step (by rw [hp]; exact h) (by rw [hp]; exact ih (hok i h0 h1).1.1 (hok i h0 h1).1.2 e)
theorem Ok.set {up : List Int} (hok : Ok up) {ra rb : Int} (ha : 0 ≤ ra ∧ ra < up.length) (hb : 0 ≤ rb ∧ rb < up.length) (hra : P up ra = ra) (hrb : P up rb = rb) : Ok (up.set ra.toNat rb) := by
 intro i h0 h1
 rw [List.length_set] at h1
 refine ⟨?_, ?_⟩
 ·rw [P_set ha.1 ha.2 h0, List.length_set]
  split
  ·exact hb
  ·exact (hok i h0 h1).1
 ·obtain ⟨r, hr⟩ := (hok i h0 h1).2
  by_cases e : r = ra
  ·exact ⟨rb, set_same hok ha hb hra hrb hr h0 h1 e⟩
  ·exact ⟨r, set_other hok ha hra hr h0 h1 e⟩
/-- Two numbers of one class. -/
def Same (up : List Int) (i j : Int) : Prop := ∃ r, Root up i r ∧ Root up j r
/-- Being of one class, as pairs make it, among the numbers below n. -/
inductive Cls (n : Int) (ps : List (Int × Int)) : Int → Int → Prop
 | refl {i : Int} (h0 : 0 ≤ i) (h1 : i < n) : Cls n ps i i
 | pair {i j : Int} (h : (i, j) ∈ ps) (h0 : 0 ≤ i) (h1 : i < n) (h2 : 0 ≤ j) (h3 : j < n) : Cls n ps i j
 | symm {i j : Int} (h : Cls n ps i j) : Cls n ps j i
 | trans {i j k : Int} (h : Cls n ps i j) (h2 : Cls n ps j k) : Cls n ps i k
theorem Cls.bd {n : Int} {ps : List (Int × Int)} {i j : Int} (h : Cls n ps i j) : (0 ≤ i ∧ i < n) ∧ (0 ≤ j ∧ j < n) := by
 induction h with
 | refl h0 h1 => exact ⟨⟨h0, h1⟩, h0, h1⟩
 | pair _ h0 h1 h2 h3 => exact ⟨⟨h0, h1⟩, h2, h3⟩
 | symm _ ih => exact ⟨ih.2, ih.1⟩
 | trans _ _ ih1 ih2 => exact ⟨ih1.1, ih2.2⟩
theorem Cls.mono {n : Int} {ps qs : List (Int × Int)} (hs : ∀ p, p ∈ ps → p ∈ qs) {i j : Int} (h : Cls n ps i j) : Cls n qs i j := by
 induction h with
 | refl h0 h1 => exact .refl h0 h1
 | pair h h0 h1 h2 h3 => exact .pair (hs _ h) h0 h1 h2 h3
 | symm _ ih => exact .symm ih
 | trans _ _ ih1 ih2 => exact .trans ih1 ih2
/-- The forest that stands for pairs. -/
structure Stands (up : List Int) (n : Int) (ps : List (Int × Int)) : Prop where
 ok : Ok up
 len : (up.length : Int) = n
 cls : ∀ i j, Cls n ps i j ↔ (0 ≤ i ∧ i < n) ∧ (0 ≤ j ∧ j < n) ∧ Same up i j
theorem Stands.join {up : List Int} {n : Int} {ps : List (Int × Int)} (h : Stands up n ps) {a b ra rb : Int} (ha : 0 ≤ a ∧ a < n) (hb : 0 ≤ b ∧ b < n) (hra : Root up a ra) (hrb : Root up b rb) :
  Stands (up.set ra.toNat rb) n (ps ++ [(a, b)]) ∧ Stands (up.set rb.toNat ra) n (ps ++ [(a, b)]) := by
 have hl := h.len
 have gen : ∀ (x y rx ry : Int), 0 ≤ x ∧ x < n → 0 ≤ y ∧ y < n → Root up x rx → Root up y ry → (∀ i j, Cls n (ps ++ [(a, b)]) i j ↔ Cls n (ps ++ [(x, y)]) i j) → Stands (up.set rx.toNat ry) n (ps ++ [(a, b)]) := by
  intro x y rx ry hx hy hrx hry heq
  have bx := h.ok.bd hrx hx.1 (by omega)
  have by' := h.ok.bd hry hy.1 (by omega)
  have hok := h.ok.set bx by' hrx.root hry.root
  refine ⟨hok, by rw [List.length_set]; exact hl, fun i j => ?_⟩
  rw [heq]
  constructor
  ·intro hc
   refine ⟨hc.bd.1, hc.bd.2, ?_⟩
   induction hc with
   | @refl i h0 h1 =>
    obtain ⟨r, hr⟩ := (hok i h0 (by rw [List.length_set]; omega)).2
    exact ⟨r, hr, hr⟩
   | @pair i j hp h0 h1 h2 h3 =>
    rcases List.mem_append.1 hp with hp | hp
    ·obtain ⟨r, r1, r2⟩ := ((h.cls i j).1 (.pair hp h0 h1 h2 h3)).2.2
     by_cases e : r = rx
     ·exact ⟨ry, set_same h.ok bx by' hrx.root hry.root r1 h0 (by omega) e, set_same h.ok bx by' hrx.root hry.root r2 h2 (by omega) e⟩
     ·exact ⟨r, set_other h.ok bx hrx.root r1 h0 (by omega) e, set_other h.ok bx hrx.root r2 h2 (by omega) e⟩
    ·have : (i, j) = (x, y) := by simpa using hp
     obtain ⟨rfl, rfl⟩ := Prod.mk.inj this
     refine ⟨ry, set_same h.ok bx by' hrx.root hry.root hrx h0 (by omega) rfl, ?_⟩
     by_cases e : ry = rx
     ·exact set_same h.ok bx by' hrx.root hry.root hry h2 (by omega) e
     ·exact set_other h.ok bx hrx.root hry h2 (by omega) e
   | symm _ ih => obtain ⟨r, r1, r2⟩ := ih; exact ⟨r, r2, r1⟩
   | trans _ _ ih1 ih2 =>
    obtain ⟨r, r1, r2⟩ := ih1
    obtain ⟨s, s1, s2⟩ := ih2
    obtain rfl := r2.uniq s1
    exact ⟨r, r1, s2⟩
  ·rintro ⟨hi, hj, s, s1, s2⟩
   have old : ∀ i, 0 ≤ i ∧ i < n → Root (up.set rx.toNat ry) i s → ∃ r, Root up i r ∧ (r = rx ∧ s = ry ∨ r ≠ rx ∧ s = r) := by
    intro i hi hs
    obtain ⟨r, hr⟩ := (h.ok i hi.1 (by omega)).2
    refine ⟨r, hr, ?_⟩
    by_cases e : r = rx
    ·exact .inl ⟨e, hs.uniq (set_same h.ok bx by' hrx.root hry.root hr hi.1 (by omega) e)⟩
    ·exact .inr ⟨e, hs.uniq (set_other h.ok bx hrx.root hr hi.1 (by omega) e)⟩
   have up' : ∀ {i j}, Cls n ps i j → Cls n (ps ++ [(x, y)]) i j := fun hc => hc.mono (fun p hp => List.mem_append_left _ hp)
   have hxy : Cls n (ps ++ [(x, y)]) x y := .pair (by simp) hx.1 hx.2 hy.1 hy.2
   obtain ⟨r1, q1, c1⟩ := old i hi s1
   obtain ⟨r2, q2, c2⟩ := old j hj s2
   have same : ∀ {u v r}, 0 ≤ u ∧ u < n → 0 ≤ v ∧ v < n → Root up u r → Root up v r → Cls n (ps ++ [(x, y)]) u v := fun hu hv a1 a2 => up' ((h.cls _ _).2 ⟨hu, hv, _, a1, a2⟩)
   rcases c1 with ⟨e1, f1⟩ | ⟨e1, f1⟩
   ·subst e1
    rcases c2 with ⟨e2, f2⟩ | ⟨e2, f2⟩
    ·subst e2
     exact same hi hj q1 q2
    ·have : r2 = ry := by rw [← f2]; exact f1
     subst this
     exact (same hi hx q1 hrx).trans (hxy.trans (same hy hj hry q2))
   ·rcases c2 with ⟨e2, f2⟩ | ⟨e2, f2⟩
    ·subst e2
     have : r1 = ry := by rw [← f1]; exact f2
     subst this
     exact (same hi hy q1 hry).trans (hxy.symm.trans (same hx hj hrx q2))
    ·have : r1 = r2 := by rw [← f1]; exact f2
     subst this
     exact same hi hj q1 q2
 refine ⟨gen a b ra rb ha hb hra hrb (fun _ _ => Iff.rfl), gen b a rb ra hb ha hrb hra (fun i j => ?_)⟩
 have swap : ∀ {u v : Int} {i j : Int}, Cls n (ps ++ [(u, v)]) i j → Cls n (ps ++ [(v, u)]) i j := by
  intro u v i j hc
  induction hc with
  | refl h0 h1 => exact .refl h0 h1
  | @pair i j hp h0 h1 h2 h3 =>
   rcases List.mem_append.1 hp with hp | hp
   ·exact .pair (List.mem_append_left _ hp) h0 h1 h2 h3
   ·have : (i, j) = (u, v) := by simpa using hp
    obtain ⟨rfl, rfl⟩ := Prod.mk.inj this
    exact .symm (.pair (by simp) h2 h3 h0 h1)
  | symm _ ih => exact .symm ih
  | trans _ _ ih1 ih2 => exact .trans ih1 ih2
 exact ⟨swap, swap⟩
/-- The numbers from 0 on, each for itself. -/
def alone (n : Nat) : List Int := (List.range n).map fun (i : Nat) => (i : Int)
theorem alone_P (n : Nat) (i : Int) (h0 : 0 ≤ i) (h1 : i < n) : P (alone n) i = i := by
 unfold P alone
 rw [List.getD_eq_getElem?_getD, List.getElem?_map, List.getElem?_range (by omega)]
 simp
 omega
theorem alone_stands (n : Nat) : Stands (alone n) n [] := by
 have hlen : (alone n).length = n := by simp [alone]
 have hok : Ok (alone n) := by
  intro i h0 h1
  rw [hlen] at h1 ⊢
  have := alone_P n i h0 h1
  exact ⟨by omega, i, .here this⟩
 refine ⟨hok, by rw [hlen], fun i j => ?_⟩
 constructor
 ·intro hc
  refine ⟨hc.bd.1, hc.bd.2, ?_⟩
  have : i = j := by
   induction hc with
   | refl _ _ => rfl
   | pair h _ _ _ _ => cases h
   | symm _ ih => exact ih.symm
   | trans _ _ ih1 ih2 => exact ih1.trans ih2
  subst this
  exact ⟨i, .here (alone_P n i hc.bd.1.1 hc.bd.1.2), .here (alone_P n i hc.bd.1.1 hc.bd.1.2)⟩
 ·rintro ⟨hi, hj, r, r1, r2⟩
  have e1 := r1.uniq (.here (alone_P n i hi.1 hi.2))
  have e2 := r2.uniq (.here (alone_P n j hj.1 hj.2))
  have : i = j := by rw [← e1, ← e2]
  subst this
  exact .refl hi.1 hi.2
end Go.Proofs.Ytkmjcdlhlhefdaa.UF

namespace Go.Proofs.Ytkmjcdlhlhefdaa.UF
set_option linter.unusedVariables false
/-- The numbers below n that point to themselves. -/
def roots (up : List Int) : List Nat := (List.range up.length).filter fun k => decide (P up (k : Int) = (k : Int))
theorem roots_nodup (up : List Int) : (roots up).Nodup := List.Pairwise.filter _ List.nodup_range
theorem mem_roots {up : List Int} {k : Nat} : k ∈ roots up ↔ k < up.length ∧ P up (k : Int) = (k : Int) := by
 unfold roots
 rw [List.mem_filter, List.mem_range]
 simp
/-- The root of a number's class. -/
noncomputable def rt (up : List Int) (i : Int) : Int := by
 classical
 exact if h : ∃ r, Root up i r then h.choose else i
theorem rt_of {up : List Int} {i r : Int} (h : Root up i r) : rt up i = r := by
 have hx : ∃ r, Root up i r := ⟨r, h⟩
 unfold rt
 rw [dif_pos hx]
 exact hx.choose_spec.uniq h
theorem Ok.rt {up : List Int} (h : Ok up) {i : Int} (h0 : 0 ≤ i) (h1 : i < up.length) : Root up i (UF.rt up i) := by
 obtain ⟨r, hr⟩ := (h i h0 h1).2
 rw [rt_of hr]
 exact hr
theorem Ok.rt_mem {up : List Int} (h : Ok up) {i : Int} (h0 : 0 ≤ i) (h1 : i < up.length) : (UF.rt up i).toNat ∈ roots up ∧ ((UF.rt up i).toNat : Int) = UF.rt up i := by
 have hr := h.rt h0 h1
 have hb := h.bd hr h0 h1
 have e : ((UF.rt up i).toNat : Int) = UF.rt up i := by omega
 exact ⟨mem_roots.2 ⟨by omega, by rw [e]; exact hr.root⟩, e⟩
theorem map_nodup {α β : Type} (f : α → β) : ∀ {l : List α}, l.Nodup → (∀ a b, a ∈ l → b ∈ l → f a = f b → a = b) → (l.map f).Nodup
 | [], _, _ => List.nodup_nil
 | x :: t, h, hf => by
  have h' := List.nodup_cons.1 h
  rw [List.map_cons, List.nodup_cons]
  refine ⟨fun hc => ?_, map_nodup f h'.2 (fun a b ha hb => hf a b (List.mem_cons_of_mem _ ha) (List.mem_cons_of_mem _ hb))⟩
  obtain ⟨y, hy, e⟩ := List.mem_map.1 hc
  have := hf y x (List.mem_cons_of_mem _ hy) List.mem_cons_self e
  subst this
  exact h'.1 hy
/-- Where a map of numbers parts classes, the second forest has at least as many roots. -/
theorem roots_map {u1 u2 : List Int} {n1 n2 : Int} {p1 p2 : List (Int × Int)} (h1 : Stands u1 n1 p1) (h2 : Stands u2 n2 p2) (f : Int → Int) (hf : ∀ i, 0 ≤ i → i < n1 → 0 ≤ f i ∧ f i < n2)
  (hc : ∀ i j, 0 ≤ i → i < n1 → 0 ≤ j → j < n1 → Cls n2 p2 (f i) (f j) → Cls n1 p1 i j) :
  ((roots u1).map fun (r : Nat) => (rt u2 (f (r : Int))).toNat).Nodup ∧ ∀ x, x ∈ (roots u1).map (fun (r : Nat) => (rt u2 (f (r : Int))).toNat) → x ∈ roots u2 := by
 have l1 := h1.len
 have l2 := h2.len
 have bd : ∀ a, a ∈ roots u1 → 0 ≤ (a : Int) ∧ (a : Int) < n1 := by
  intro a ha
  have := (mem_roots.1 ha).1
  omega
 refine ⟨map_nodup _ (roots_nodup u1) ?_, ?_⟩
 ·intro a b ha hb e
  have ba := bd a ha
  have bb := bd b hb
  have fa := hf a ba.1 ba.2
  have fb := hf b bb.1 bb.2
  have ra := h2.ok.rt fa.1 (by omega)
  have rb := h2.ok.rt fb.1 (by omega)
  have ea := (h2.ok.rt_mem fa.1 (by omega)).2
  have eb := (h2.ok.rt_mem fb.1 (by omega)).2
  have e' : rt u2 (f (a : Int)) = rt u2 (f (b : Int)) := by
   rw [← ea, ← eb]
   exact congrArg _ e
  have c2 : Cls n2 p2 (f a) (f b) := (h2.cls _ _).2 ⟨fa, fb, _, ra, by rw [e']; exact rb⟩
  obtain ⟨_, _, s, s1, s2⟩ := (h1.cls _ _).1 (hc a b ba.1 ba.2 bb.1 bb.2 c2)
  have q1 := s1.uniq (.here (mem_roots.1 ha).2)
  have q2 := s2.uniq (.here (mem_roots.1 hb).2)
  omega
 ·intro x hx
  obtain ⟨a, ha, rfl⟩ := List.mem_map.1 hx
  have ba := bd a ha
  have fa := hf a ba.1 ba.2
  exact (h2.ok.rt_mem fa.1 (by omega)).1
theorem roots_le {u1 u2 : List Int} {n1 n2 : Int} {p1 p2 : List (Int × Int)} (h1 : Stands u1 n1 p1) (h2 : Stands u2 n2 p2) (f : Int → Int) (hf : ∀ i, 0 ≤ i → i < n1 → 0 ≤ f i ∧ f i < n2)
  (hc : ∀ i j, 0 ≤ i → i < n1 → 0 ≤ j → j < n1 → Cls n2 p2 (f i) (f j) → Cls n1 p1 i j) : (roots u1).length ≤ (roots u2).length := by
 have h := roots_map h1 h2 f hf hc
 have := List.Nodup.length_le_of_subset h.1 h.2
 rwa [List.length_map] at this
theorem roots_perm {u1 u2 : List Int} {n : Int} {p1 p2 : List (Int × Int)} (h1 : Stands u1 n p1) (h2 : Stands u2 n p2) (hc : ∀ i j, Cls n p1 i j ↔ Cls n p2 i j) :
  List.Perm ((roots u1).map fun (r : Nat) => (rt u2 (r : Int)).toNat) (roots u2) := by
 have h := roots_map h1 h2 (fun i => i) (fun i a b => ⟨a, b⟩) (fun i j _ _ _ _ c => (hc i j).2 c)
 have l1 := h1.len
 have l2 := h2.len
 refine (List.perm_ext_iff_of_nodup h.1 (roots_nodup u2)).2 fun x => ⟨h.2 x, fun hx => ?_⟩
 have hb := (mem_roots.1 hx).1
 have m1 := h1.ok.rt_mem (i := (x : Int)) (by omega) (by omega)
 have r1 := h1.ok.rt (i := (x : Int)) (by omega) (by omega)
 have b1 := h1.ok.bd r1 (by omega) (by omega)
 refine List.mem_map.2 ⟨_, m1.1, ?_⟩
 rw [m1.2]
 have c1 : Cls n p1 (x : Int) (rt u1 (x : Int)) := (h1.cls _ _).2 ⟨by omega, by omega, _, r1, .here r1.root⟩
 obtain ⟨_, _, s, s1, s2⟩ := (h2.cls _ _).1 ((hc _ _).1 c1)
 have q1 := s1.uniq (.here (mem_roots.1 hx).2)
 rw [rt_of s2]
 omega
/-- How many numbers have this root. -/
noncomputable def csize (up : List Int) (r : Int) : Nat := ((List.range up.length).filter fun (k : Nat) => decide (rt up (k : Int) = r)).length
end Go.Proofs.Ytkmjcdlhlhefdaa.UF


namespace Go.Proofs.Ytkmjcdlhlhefdaa.L
open Go.RowKit Go.Proofs.Ytkmjcdlhlhefdaa.P Go.Proofs.Ytkmjcdlhlhefdaa.Help
set_option linter.unusedVariables false
def mateN (d : Nat) : Nat := if d % 2 = 0 then d + 1 else d - 1
theorem mateN_bd {d n : Nat} (h : d < 2 * n) : mateN d < 2 * n := by
 unfold mateN
 split <;> omega
/-- What is joined at a dart. -/
def gp (w : List Int) (s : Int) (d : Nat) : List (Int × Int) := [((d : Int), (nx w s d : Int)), ((d : Int), (mateN d : Int))]
def allP (f : Nat → List (Int × Int)) : Nat → Nat → List (Int × Int)
 | 0, _ => []
 | n + 1, i => f i ++ allP f n (i + 1)
theorem mem_allP {f : Nat → List (Int × Int)} {p : Int × Int} : ∀ (n i : Nat), p ∈ allP f n i ↔ ∃ d, i ≤ d ∧ d < i + n ∧ p ∈ f d
 | 0, i => by
  simp only [allP]
  constructor
  ·intro h; exact absurd h (by simp)
  ·rintro ⟨d, h1, h2, _⟩; omega
 | n + 1, i => by
  rw [allP, List.mem_append, mem_allP n (i + 1)]
  constructor
  ·rintro (h | ⟨d, h1, h2, h3⟩)
   ·exact ⟨i, by omega, by omega, h⟩
   ·exact ⟨d, by omega, by omega, h3⟩
  ·rintro ⟨d, h1, h2, h3⟩
   by_cases e : d = i
   ·subst e; exact .inl h3
   ·exact .inr ⟨d, by omega, by omega, h3⟩
def prs (w : List Int) (s : Int) : List (Int × Int) := allP (gp w s) (2 * w.length) 0
theorem cls_nx {w : List Int} (h : cw w = true) (s : Int) {d : Nat} (hd : d < 2 * w.length) : UF.Cls (2 * (w.length : Int)) (prs w s) (d : Int) (nx w s d : Int) := by
 have b := (nx_bd h s hd).1
 exact .pair ((mem_allP _ _).2 ⟨d, by omega, by omega, by simp [gp]⟩) (by omega) (by omega) (by omega) (by omega)
theorem cls_mate {w : List Int} (s : Int) {d : Nat} (hd : d < 2 * w.length) : UF.Cls (2 * (w.length : Int)) (prs w s) (d : Int) (mateN d : Int) := by
 have b := mateN_bd hd
 exact .pair ((mem_allP _ _).2 ⟨d, by omega, by omega, by simp [gp]⟩) (by omega) (by omega) (by omega) (by omega)
theorem cls_lam {w : List Int} (h : cw w = true) (s : Int) {d e : Nat} (hd : d < 2 * w.length) (he : e < 2 * w.length) (hl : lam w e = lam w d) : UF.Cls (2 * (w.length : Int)) (prs w s) (d : Int) (e : Int) := by
 obtain ⟨p, q, ep, pq, ql, b1, b2, b3, en, li⟩ := nx_ring h hd
 generalize hr2 : 2 * prN p w.length + 1 = r2 at *
 generalize hr3 : 2 * prN q w.length + 1 = r3 at *
 generalize hr0 : 2 * p = r0 at *
 generalize hr1 : 2 * q = r1 at *
 have c0 : r0 < 2 * w.length := by omega
 have c1 : r1 < 2 * w.length := by omega
 have c2 : r2 < 2 * w.length := by omega
 have c3 : r3 < 2 * w.length := by omega
 have n01 : r0 ≠ r1 := by omega
 have n02 : r0 ≠ r2 := by omega
 have n03 : r0 ≠ r3 := by omega
 have n12 : r1 ≠ r2 := by omega
 have n13 : r1 ≠ r3 := by omega
 have n23 : r2 ≠ r3 := by omega
 have nxe : ∀ f, f < 2 * w.length → (f = r0 ∨ f = r1 ∨ f = r2 ∨ f = r3) → nx w s f = nxr (decide (bitOf s (lam w d) = 1)) r0 r1 r2 r3 f := by
  intro f hf hin
  obtain ⟨p', q', ep', _, _, _, _, _, en', _⟩ := nx_ring h hf
  have lf := (li f hf).2 hin
  rw [lf, ep] at ep'
  obtain ⟨e1, e2⟩ := Prod.mk.injEq .. ▸ ep'
  have e1' : p' = p := by omega
  have e2' : q' = q := by omega
  rw [en' s, lf, e1', e2', hr0, hr1, hr2, hr3]
 have all : UF.Cls (2 * (w.length : Int)) (prs w s) (r0 : Int) (r1 : Int) ∧ UF.Cls (2 * (w.length : Int)) (prs w s) (r1 : Int) (r2 : Int) ∧ UF.Cls (2 * (w.length : Int)) (prs w s) (r2 : Int) (r3 : Int) := by
  by_cases hb : bitOf s (lam w d) = 1
  ·have x1 : nx w s r1 = r0 := by
    rw [nxe r1 c1 (by simp)]
    unfold nxr
    rw [decide_eq_true hb, if_pos rfl]
    repeat' split
    all_goals first | rfl | omega
   have x2 : nx w s r2 = r1 := by
    rw [nxe r2 c2 (by simp)]
    unfold nxr
    rw [decide_eq_true hb, if_pos rfl]
    repeat' split
    all_goals first | rfl | omega
   have x3 : nx w s r3 = r2 := by
    rw [nxe r3 c3 (by simp)]
    unfold nxr
    rw [decide_eq_true hb, if_pos rfl]
    repeat' split
    all_goals first | rfl | omega
   have y1 := cls_nx h s c1
   have y2 := cls_nx h s c2
   have y3 := cls_nx h s c3
   rw [x1] at y1
   rw [x2] at y2
   rw [x3] at y3
   exact ⟨y1.symm, y2.symm, y3.symm⟩
  ·have x0 : nx w s r0 = r1 := by
    rw [nxe r0 c0 (by simp)]
    unfold nxr
    rw [decide_eq_false hb, if_neg (by decide)]
    repeat' split
    all_goals first | rfl | omega
   have x1 : nx w s r1 = r2 := by
    rw [nxe r1 c1 (by simp)]
    unfold nxr
    rw [decide_eq_false hb, if_neg (by decide)]
    repeat' split
    all_goals first | rfl | omega
   have x2 : nx w s r2 = r3 := by
    rw [nxe r2 c2 (by simp)]
    unfold nxr
    rw [decide_eq_false hb, if_neg (by decide)]
    repeat' split
    all_goals first | rfl | omega
   have y0 := cls_nx h s c0
   have y1 := cls_nx h s c1
   have y2 := cls_nx h s c2
   rw [x0] at y0
   rw [x1] at y1
   rw [x2] at y2
   exact ⟨y0, y1, y2⟩
 obtain ⟨a1, a2, a3⟩ := all
 have to0 : ∀ f, f < 2 * w.length → (f = r0 ∨ f = r1 ∨ f = r2 ∨ f = r3) → UF.Cls (2 * (w.length : Int)) (prs w s) (r0 : Int) (f : Int) := by
  rintro f hf (c | c | c | c)
  ·subst c; exact .refl (by omega) (by omega)
  ·subst c; exact a1
  ·subst c; exact a1.trans a2
  ·subst c; exact (a1.trans a2).trans a3
 exact (to0 d hd ((li d hd).1 rfl)).symm.trans (to0 e he ((li e he).1 hl))
theorem cls_even {w : List Int} (h : cw w = true) (s : Int) : ∀ i : Nat, i < w.length → UF.Cls (2 * (w.length : Int)) (prs w s) ((2 * i : Nat) : Int) 0
 | 0, hi => .refl (by omega) (by omega)
 | i + 1, hi => by
  have l1 : lam w (2 * i + 1) = lam w (2 * (i + 1)) := by
   unfold lam
   rw [if_neg (by omega), if_pos (by omega), show (2 * i + 1) / 2 = i by omega, show 2 * (i + 1) / 2 = i + 1 by omega, Nat.mod_eq_of_lt (by omega)]
  have c1 := cls_lam h s (show 2 * (i + 1) < 2 * w.length by omega) (show 2 * i + 1 < 2 * w.length by omega) l1
  have c2 := cls_mate (w := w) s (show 2 * i + 1 < 2 * w.length by omega)
  have e : mateN (2 * i + 1) = 2 * i := by unfold mateN; rw [if_neg (by omega)]; omega
  rw [e] at c2
  exact (c1.trans c2).trans (cls_even h s i (by omega))
theorem cls_zero {w : List Int} (h : cw w = true) (s : Int) {d : Nat} (hd : d < 2 * w.length) : UF.Cls (2 * (w.length : Int)) (prs w s) (d : Int) 0 := by
 by_cases e : d % 2 = 0
 ·have := cls_even h s (d / 2) (by omega)
  rwa [show 2 * (d / 2) = d by omega] at this
 ·have c2 := cls_mate (w := w) s hd
  have e2 : mateN d = 2 * (d / 2) := by unfold mateN; rw [if_neg e]; omega
  rw [e2] at c2
  exact c2.trans (cls_even h s (d / 2) (by omega))
/-- One part. -/
theorem one_root {w : List Int} (h : cw w = true) (s : Int) {up : List Int} (S : UF.Stands up (2 * (w.length : Int)) (prs w s)) : (UF.roots up).length ≤ 1 := by
 have := UF.roots_le S (UF.alone_stands 1) (fun _ => 0) (fun i _ _ => ⟨by omega, by omega⟩) (fun i j i0 i1 j0 j1 _ => by
  have a := cls_zero h s (show i.toNat < 2 * w.length by omega)
  have b := cls_zero h s (show j.toNat < 2 * w.length by omega)
  rw [Int.toNat_of_nonneg i0] at a
  rw [Int.toNat_of_nonneg j0] at b
  exact a.trans b.symm)
 have e : (UF.roots (UF.alone 1)).length = 1 := by decide
 omega
/-- The numbers of one's own that are bits. -/
def fmin (a : Int) (l : List Int) : Int := l.foldl (fun b x => if x < b then x else b) a
theorem fmin_le : ∀ (l : List Int) (a : Int), fmin a l ≤ a ∧ (∀ x ∈ l, fmin a l ≤ x) ∧ (fmin a l = a ∨ fmin a l ∈ l)
 | [], a => ⟨Int.le_refl _, fun x hx => absurd hx (by simp), .inl rfl⟩
 | y :: l, a => by
  have e : fmin a (y :: l) = fmin (if y < a then y else a) l := rfl
  obtain ⟨h1, h2, h3⟩ := fmin_le l (if y < a then y else a)
  rw [e]
  have hm : (if y < a then y else a) ≤ a ∧ (if y < a then y else a) ≤ y := by split <;> omega
  refine ⟨?_, ?_, ?_⟩
  ·exact Int.le_trans h1 hm.1
  ·intro x hx
   rcases List.mem_cons.1 hx with c | c
   ·subst c
    exact Int.le_trans h1 hm.2
   ·exact h2 x c
  ·rcases h3 with c | c
   ·by_cases ya : y < a
    ·rw [if_pos ya] at c ⊢
     exact .inr (by rw [c]; exact List.mem_cons_self)
    ·rw [if_neg ya] at c ⊢
     exact .inl c
   ·exact .inr (List.mem_cons_of_mem _ c)
theorem fmin_eq {l m : List Int} {a b : Int} (hs : ∀ x, x ∈ l ↔ x ∈ m) (ha : ∀ x ∈ l, x ≤ a) (hb : ∀ x ∈ l, x ≤ b) (hn : ∃ x, x ∈ l) : fmin a l = fmin b m := by
 obtain ⟨a1, a2, a3⟩ := fmin_le l a
 obtain ⟨b1, b2, b3⟩ := fmin_le m b
 obtain ⟨x, hx⟩ := hn
 have p1 := a2 x hx
 have p2 := b2 x ((hs x).1 hx)
 have q1 := ha x hx
 have q2 := hb x hx
 rcases a3 with c | c
 ·rcases b3 with d | d
  ·omega
  ·have := a2 _ ((hs _).2 d)
   have := ha _ ((hs _).2 d)
   omega
 ·have r1 := b2 _ ((hs _).1 c)
  rcases b3 with d | d
  ·have := hb _ c
   omega
  ·have := a2 _ ((hs _).2 d)
   omega
end Go.Proofs.Ytkmjcdlhlhefdaa.L

namespace Go.Proofs.Ytkmjcdlhlhefdaa.UF
set_option linter.unusedVariables false
theorem Cls.map {n1 n2 : Int} {p1 p2 : List (Int × Int)} (f : Int → Int) (hf : ∀ i, 0 ≤ i → i < n1 → 0 ≤ f i ∧ f i < n2) (hp : ∀ i j, (i, j) ∈ p1 → 0 ≤ i → i < n1 → 0 ≤ j → j < n1 → Cls n2 p2 (f i) (f j)) {i j : Int} (h : Cls n1 p1 i j) : Cls n2 p2 (f i) (f j) := by
 induction h with
 | refl h0 h1 =>
  have := hf _ h0 h1
  exact .refl this.1 this.2
 | pair h h0 h1 h2 h3 => exact hp _ _ h h0 h1 h2 h3
 | symm _ ih => exact ih.symm
 | trans _ _ ih1 ih2 => exact ih1.trans ih2
/-- How long a way to a root can be: as long as the forest. -/
inductive Way (up : List Int) : Nat → Int → Int → Prop
 | here {r : Int} (h : P up r = r) : Way up 0 r r
 | step {k : Nat} {i r : Int} (h : P up i ≠ i) (w : Way up k (P up i) r) : Way up (k + 1) i r
theorem Root.way {up : List Int} {i r : Int} (h : Root up i r) : ∃ k, Way up k i r := by
 induction h with
 | here h => exact ⟨0, .here h⟩
 | step h _ ih =>
  obtain ⟨k, hk⟩ := ih
  exact ⟨k + 1, .step h hk⟩
theorem Way.root {up : List Int} {k : Nat} {i r : Int} (h : Way up k i r) : Root up i r := by
 induction h with
 | here h => exact .here h
 | step h _ ih => exact .step h ih
theorem Way.uniq {up : List Int} {k : Nat} {i r : Int} (h : Way up k i r) : ∀ {m : Nat} {s : Int}, Way up m i s → k = m := by
 induction h with
 | here h =>
  intro m s hs
  cases hs with
  | here _ => rfl
  | step h2 _ => exact absurd h h2
 | step h _ ih =>
  intro m s hs
  cases hs with
  | here h2 => exact absurd h2 h
  | step _ k2 => rw [ih k2]
/-- The numbers on a way. -/
def path (up : List Int) : Nat → Int → List Int
 | 0, i => [i]
 | k + 1, i => i :: path up k (P up i)
theorem path_len (up : List Int) : ∀ k i, (path up k i).length = k + 1
 | 0, _ => rfl
 | k + 1, i => by rw [path, List.length_cons, path_len up k]
theorem Way.nodup {up : List Int} {k : Nat} {i r : Int} (h : Way up k i r) : (path up k i).Nodup ∧ ∀ x, x ∈ path up k i → ∃ m, m ≤ k ∧ Way up m x r := by
 induction h with
 | @here r h =>
  refine ⟨by simp [path], fun x hx => ?_⟩
  have : x = r := by simpa [path] using hx
  subst this
  exact ⟨0, Nat.le_refl _, .here h⟩
 | @step k i r h w ih =>
  refine ⟨?_, fun x hx => ?_⟩
  ·rw [path, List.nodup_cons]
   refine ⟨fun hc => ?_, ih.1⟩
   obtain ⟨m, hm, hw⟩ := ih.2 _ hc
   have := hw.uniq (Way.step h w)
   omega
  ·rw [path] at hx
   rcases List.mem_cons.1 hx with e | e
   ·subst e
    exact ⟨k + 1, Nat.le_refl _, .step h w⟩
   ·obtain ⟨m, hm, hw⟩ := ih.2 _ e
    exact ⟨m, by omega, hw⟩
theorem Ok.path_bd {up : List Int} (hok : Ok up) : ∀ (k : Nat) (i : Int), 0 ≤ i → i < up.length → ∀ x, x ∈ path up k i → 0 ≤ x ∧ x < up.length
 | 0, i, h0, h1, x, hx => by
  have : x = i := by simpa [path] using hx
  omega
 | k + 1, i, h0, h1, x, hx => by
  rw [path] at hx
  rcases List.mem_cons.1 hx with e | e
  ·omega
  ·exact Ok.path_bd hok k _ (hok i h0 h1).1.1 (hok i h0 h1).1.2 x e
theorem Way.short {up : List Int} (hok : Ok up) {k : Nat} {i r : Int} (h : Way up k i r) (h0 : 0 ≤ i) (h1 : i < up.length) : k < up.length := by
 have hb := hok.path_bd k i h0 h1
 have hn := map_nodup (fun (x : Int) => x.toNat) h.nodup.1 (fun a b ha hb' e => by
  have := hb a ha
  have := hb b hb'
  have e' : a.toNat = b.toNat := e
  omega)
 have := List.Nodup.length_le_of_subset (l₂ := List.range up.length) hn (fun x hx => by
  obtain ⟨a, ha, rfl⟩ := List.mem_map.1 hx
  have := hb a ha
  exact List.mem_range.2 (by omega))
 rw [List.length_map, path_len, List.length_range] at this
 omega
/-- Every number has a way to its root that is shorter than the forest. -/
theorem Ok.way {up : List Int} (hok : Ok up) {i : Int} (h0 : 0 ≤ i) (h1 : i < up.length) : ∃ k, k < up.length ∧ Way up k i (UF.rt up i) := by
 obtain ⟨k, hk⟩ := (hok.rt h0 h1).way
 exact ⟨k, hk.short hok h0 h1, hk⟩
end Go.Proofs.Ytkmjcdlhlhefdaa.UF

namespace Go.Proofs.Ytkmjcdlhlhefdaa.L
open Go.RowKit Go.Proofs.Ytkmjcdlhlhefdaa.P Go.Proofs.Ytkmjcdlhlhefdaa.Help Go.Proofs.YtkmjcdlhlhefdaaW.PrintWords
set_option linter.unusedVariables false
set_option linter.unusedSimpArgs false

theorem top_way {up : List Int} (hok : UF.Ok up) {k : Nat} {i r : Int} (h : UF.Way up k i r) : ∀ m, k < m → 0 ≤ i → i < up.length → joiner_top.l0 m up i = some r := by
 induction h with
 | @here r h =>
  intro m hm h0 h1
  obtain ⟨m, rfl⟩ : ∃ q, m = q + 1 := ⟨m - 1, by omega⟩
  simp only [joiner_top.l0]
  rw [if_pos h0, if_pos h1, if_pos (show rd up r = r from h)]
 | @step k i r h w ih =>
  intro m hm h0 h1
  obtain ⟨m, rfl⟩ : ∃ q, m = q + 1 := ⟨m - 1, by omega⟩
  have hb := (hok i h0 h1).1
  simp only [joiner_top.l0]
  rw [if_pos h0, if_pos h1, if_neg (show ¬ rd up i = i from h)]
  exact ih m (by omega) hb.1 hb.2
theorem find_way {up : List Int} (hok : UF.Ok up) {k : Nat} {i r : Int} (h : UF.Way up k i r) : ∀ m, k < m → 0 ≤ i → i < up.length → spec_l3Find.l0 m up i = some r := by
 induction h with
 | @here r h =>
  intro m hm h0 h1
  obtain ⟨m, rfl⟩ : ∃ q, m = q + 1 := ⟨m - 1, by omega⟩
  simp only [spec_l3Find.l0]
  rw [if_pos h0, if_pos h1, if_pos (show rd up r = r from h)]
 | @step k i r h w ih =>
  intro m hm h0 h1
  obtain ⟨m, rfl⟩ : ∃ q, m = q + 1 := ⟨m - 1, by omega⟩
  have hb := (hok i h0 h1).1
  simp only [spec_l3Find.l0]
  rw [if_pos h0, if_pos h1, if_neg (show ¬ rd up i = i from h)]
  exact ih m (by omega) hb.1 hb.2
theorem top_f {up : List Int} (hok : UF.Ok up) {i : Int} (h0 : 0 ≤ i) (h1 : i < up.length) {m : Nat} (hm : up.length ≤ m) : joiner_top.l0 m up i = some (UF.rt up i) := by
 obtain ⟨k, hk, w⟩ := hok.way h0 h1
 exact top_way hok w m (by omega) h0 h1
theorem find3_f {up : List Int} (hok : UF.Ok up) {i : Int} (h0 : 0 ≤ i) (h1 : i < up.length) {m : Nat} (hm : up.length ≤ m) : spec_l3Find.f m up i = some (UF.rt up i) := by
 obtain ⟨k, hk, w⟩ := hok.way h0 h1
 exact find_way hok w m (by omega) h0 h1
theorem join_f {up : List Int} {n : Int} {ps : List (Int × Int)} (h : UF.Stands up n ps) {a b : Int} (ha : 0 ≤ a ∧ a < n) (hb : 0 ≤ b ∧ b < n) {m : Nat} (hm : up.length ≤ m) : ∃ ys, joiner_join.f m up a b = some ys ∧ UF.Stands ys n (ps ++ [(a, b)]) := by
 have hl := h.len
 have ra := h.ok.rt ha.1 (by omega)
 have rb := h.ok.rt hb.1 (by omega)
 have ba := h.ok.bd ra ha.1 (by omega)
 have bb := h.ok.bd rb hb.1 (by omega)
 have J := h.join ha hb ra rb
 unfold joiner_join.f
 rw [top_f h.ok ha.1 (by omega) hm, Option.bind_some, top_f h.ok hb.1 (by omega) hm, Option.bind_some]
 unfold joiner_join.put
 by_cases c : UF.rt up a > UF.rt up b
 ·rw [if_pos c, if_pos ba.1, if_pos ba.2]
  exact ⟨_, rfl, J.1⟩
 ·rw [if_neg c, if_pos bb.1, if_pos bb.2]
  exact ⟨_, rfl, J.2⟩
theorem alone_succ (n : Nat) : UF.alone (n + 1) = UF.alone n ++ [(n : Int)] := by
 unfold UF.alone
 rw [List.range_succ, List.map_append]
 rfl
theorem alone_len (n : Nat) : (UF.alone n).length = n := by simp [UF.alone]
theorem newJoiner_l0 (n : Nat) (hn : n ≤ 1000000) : ∀ (d k i : Nat), i + d = n → d < k → impl_newJoiner.l0 k (n : Int) (UF.alone i) (i : Int) = some (UF.alone n) := by
 intro d
 induction d with
 | zero =>
  intro k i hi hk
  obtain ⟨k, rfl⟩ : ∃ m, k = m + 1 := ⟨k - 1, by omega⟩
  simp only [impl_newJoiner.l0]
  rw [if_neg (by omega), show i = n by omega]
 | succ d ih =>
  intro k i hi hk
  obtain ⟨k, rfl⟩ : ∃ m, k = m + 1 := ⟨k - 1, by omega⟩
  simp only [impl_newJoiner.l0]
  rw [if_pos (by omega), if_pos (by rw [alone_len]; omega), w_id (by omega) (by omega), show ((i : Int) + 1) = ((i + 1 : Nat) : Int) by omega, ← alone_succ, ih k (i + 1) (by omega) (by omega)]
theorem newJoiner_f (n : Nat) (hn : n ≤ 1000000) (k : Nat) (hk : n < k) : impl_newJoiner.l0 k (n : Int) [] 0 = some (UF.alone n) := newJoiner_l0 n hn n k 0 (by omega) hk
end Go.Proofs.Ytkmjcdlhlhefdaa.L

namespace Go.Proofs.Ytkmjcdlhlhefdaa.L
open Go.RowKit Go.Proofs.Ytkmjcdlhlhefdaa.P Go.Proofs.Ytkmjcdlhlhefdaa.Help Go.Proofs.YtkmjcdlhlhefdaaW.PrintWords Go.Proofs.YtkmjcdlhlhefdaaW.PrintLast Go.Proofs.YtkmjcdlhlhefdaaW.PrintMore
set_option linter.unusedVariables false
set_option linter.unusedSimpArgs false

/-- A row that is a permutation told by a function. -/
structure Pm (m : List Int) (f : Nat → Nat) : Prop where
 lo : 4 ≤ m.length
 hi : m.length ≤ 24
 at_ : ∀ d, d < m.length → m.getD d 0 = (f d : Int)
 bd : ∀ d, d < m.length → f d < m.length
 inj : ∀ d e, d < m.length → e < m.length → f d = f e → d = e
theorem rdg (m : List Int) (d : Nat) : rd m (d : Int) = m.getD d 0 := by
 unfold rd
 rw [Int.toNat_natCast]
theorem rdb (m : List Bool) (d : Nat) : rdOf false m (d : Int) = m.getD d false := by
 unfold rdOf
 rw [Int.toNat_natCast]
def seenF (f : Nat → Nat) (N i : Nat) : List Bool := (List.range N).map fun j => (List.range i).any fun d => f d == j
theorem seenF_len (f : Nat → Nat) (N i : Nat) : (seenF f N i).length = N := by simp [seenF]
theorem seenF_at (f : Nat → Nat) {N i j : Nat} (h : j < N) : (seenF f N i).getD j false = (List.range i).any fun d => f d == j := by
 unfold seenF
 rw [List.getD_eq_getElem?_getD, List.getElem?_map, List.getElem?_range h]
 rfl
theorem seenF_set (f : Nat → Nat) {N i : Nat} (h : f i < N) : (seenF f N i).set (f i) true = seenF f N (i + 1) := by
 apply List.ext_getElem
 ·simp [seenF]
 ·intro j h1 h2
  simp only [seenF, List.getElem_set, List.getElem_map, List.getElem_range, List.range_succ, List.any_append, List.any_cons, List.any_nil, Bool.or_false]
  by_cases e : f i = j
  ·rw [if_pos e]
   simp [e]
  ·rw [if_neg e]
   have : (f i == j) = false := by simpa using e
   rw [this, Bool.or_false]
theorem within_g (a b c : Int) : impl_within.f a b c = some (decide (b ≤ a ∧ a ≤ c)) := by
 unfold impl_within.f
 by_cases h : a ≥ b
 ·rw [if_pos h]
  congr 1
  by_cases h2 : a ≤ c
  ·rw [decide_eq_true h2, decide_eq_true ⟨h, h2⟩]
  ·rw [decide_eq_false h2, decide_eq_false (fun x => h2 x.2)]
 ·rw [if_neg h, decide_eq_false (fun x => h x.1)]
theorem perm_l0 {m : List Int} {f : Nat → Nat} (h : Pm m f) : ∀ (d k i : Nat), i + d = m.length → d < k → impl_isPermutation.l0 k m (seenF f m.length i) m (m.length : Int) (i : Int) = some true
 | 0, k, i, hi, hk => by
  obtain ⟨k, rfl⟩ : ∃ m, k = m + 1 := ⟨k - 1, by omega⟩
  simp only [impl_isPermutation.l0]
  rw [if_neg (by omega)]
 | d + 1, k, i, hi, hk => by
  obtain ⟨k, rfl⟩ : ∃ m, k = m + 1 := ⟨k - 1, by omega⟩
  have h1 := h.lo
  have h2 := h.hi
  have hlt : i < m.length := by omega
  have e := h.at_ i hlt
  have b := h.bd i hlt
  have ns : (seenF f m.length i).getD (f i) false = false := by
   rw [seenF_at f b, List.any_eq_false]
   intro d' hd' he
   rw [List.mem_range] at hd'
   have := h.inj d' i (by omega) hlt (by simpa using he)
   omega
  simp only [impl_isPermutation.l0]
  rw [if_pos (by omega), if_pos (by omega), if_pos (by omega), rdg, e, w_id (by omega) (by omega), within_g, Option.bind_some, if_pos (decide_eq_true ⟨by omega, by omega⟩), if_pos (by omega), if_pos (by rw [seenF_len]; omega), rdb, ns, if_neg (by decide), Int.toNat_natCast, seenF_set f b, w_id (by omega) (by omega), show ((i : Int) + 1) = ((i + 1 : Nat) : Int) by omega]
  exact perm_l0 h d k (i + 1) (by omega) (by omega)
theorem seenF_zero (f : Nat → Nat) (N : Nat) : seenF f N 0 = List.replicate N false := by
 apply List.ext_getElem
 ·simp [seenF]
 ·intro j h1 h2
  simp [seenF]
theorem isMap_f {m : List Int} {f : Nat → Nat} (h : Pm m f) (he : m.length % 2 = 0) (k : Nat) (hk : 30 < k) : impl_IsMap.f k m = some true := by
 have h1 := h.lo
 have h2 := h.hi
 have hp : impl_isPermutation.l0 k m (seenF f m.length 0) m (m.length : Int) 0 = some true := perm_l0 h m.length k 0 (by omega) (by omega)
 unfold impl_IsMap.f impl_isPermutation.f
 rw [within_g, Option.bind_some, if_pos (decide_eq_true ⟨by omega, by omega⟩), if_pos (by omega), if_pos (by omega), if_pos (by omega), Int.toNat_natCast, ← seenF_zero f, hp]
 rfl
/-- How many are not seen. -/
def nos : List Bool → Nat
 | [] => 0
 | b :: t => (if b = true then 0 else 1) + nos t
theorem nos_le : ∀ l : List Bool, nos l ≤ l.length
 | [] => Nat.le_refl _
 | b :: t => by
  have := nos_le t
  rw [nos, List.length_cons]
  split <;> omega
theorem nos_set : ∀ (l : List Bool) (i : Nat), i < l.length → l.getD i false = false → nos (l.set i true) + 1 = nos l
 | [], i, h, _ => absurd h (by simp)
 | b :: t, 0, h, e => by
  have e' : b = false := e
  subst e'
  simp [nos]
  omega
 | b :: t, i + 1, h, e => by
  have := nos_set t i (by simpa using h) e
  rw [List.set_cons_succ, nos, nos]
  omega
theorem cyc {m : List Int} (h2 : m.length ≤ 24) (hb : ∀ d, d < m.length → 0 ≤ m.getD d 0 ∧ m.getD d 0 < (m.length : Int)) : ∀ b : Nat,
  (∀ (out : List (List Int)) (seen : List Bool) (d : Nat), d ≤ m.length → seen.length = m.length → 2 * (m.length - d) + nos seen ≤ b → out.length ≤ d → ∃ C : List (List Int), C.length ≤ m.length ∧ ∀ k, b < k → spec_l6Cycles.l0 k m out seen (d : Int) = some C ∧ impl_cycles.l0 k m out seen (m.length : Int) (d : Int) = some C) ∧
  (∀ (out : List (List Int)) (seen : List Bool) (d : Nat) (own : List Int) (cur : Nat), d < m.length → cur < m.length → seen.length = m.length → 2 * (m.length - d) - 1 + nos seen ≤ b → out.length ≤ d → own.length + nos seen ≤ 100 → ∃ C : List (List Int), C.length ≤ m.length ∧ ∀ k, b < k → spec_l6Cycles.l1 k m out seen (d : Int) own (cur : Int) = some C ∧ impl_cycles.l1 k m out seen own (cur : Int) (m.length : Int) (d : Int) = some C)
 | 0 => by
  refine ⟨?_, ?_⟩
  ·intro out seen d hd hs hm ho
   refine ⟨out, by omega, fun k hk => ?_⟩
   obtain ⟨k, rfl⟩ : ∃ q, k = q + 1 := ⟨k - 1, by omega⟩
   simp only [spec_l6Cycles.l0, impl_cycles.l0]
   rw [if_neg (by omega), if_neg (by omega)]
   exact ⟨rfl, rfl⟩
  ·intro out seen d own cur hd hc hs hm ho hw
   omega
 | b + 1 => by
  obtain ⟨ih0, ih1⟩ := cyc h2 hb b
  refine ⟨?_, ?_⟩
  ·intro out seen d hd hs hm ho
   by_cases hlt : d < m.length
   ·by_cases s : seen.getD d false = true
    ·obtain ⟨C, hC, hk0⟩ := ih0 out seen (d + 1) (by omega) hs (by omega) (by omega)
     refine ⟨C, hC, fun k hk => ?_⟩
     obtain ⟨k, rfl⟩ : ∃ q, k = q + 1 := ⟨k - 1, by omega⟩
     simp only [spec_l6Cycles.l0, impl_cycles.l0]
     rw [if_pos (by omega), if_pos (by omega), if_pos (by omega), rdb, if_pos s, if_pos (by omega), if_pos (by omega), if_pos (by omega), if_pos s, w_id (by omega) (by omega), show ((d : Int) + 1) = ((d + 1 : Nat) : Int) by omega]
     exact hk0 k (by omega)
    ·obtain ⟨C, hC, hk0⟩ := ih1 out seen d [] d hlt hlt hs (by omega) ho (by have := nos_le seen; simp; omega)
     refine ⟨C, hC, fun k hk => ?_⟩
     obtain ⟨k, rfl⟩ : ∃ q, k = q + 1 := ⟨k - 1, by omega⟩
     simp only [spec_l6Cycles.l0, impl_cycles.l0]
     rw [if_pos (by omega), if_pos (by omega), if_pos (by omega), rdb, if_neg s, if_pos (by omega), if_pos (by omega), if_pos (by omega), if_neg s]
     exact hk0 k (by omega)
   ·refine ⟨out, by omega, fun k hk => ?_⟩
    obtain ⟨k, rfl⟩ : ∃ q, k = q + 1 := ⟨k - 1, by omega⟩
    simp only [spec_l6Cycles.l0, impl_cycles.l0]
    rw [if_neg (by omega), if_neg (by omega)]
    exact ⟨rfl, rfl⟩
  ·intro out seen d own cur hd hc hs hm ho hw
   by_cases s : seen.getD cur false = true
   ·obtain ⟨C, hC, hk0⟩ := ih0 (out ++ [own]) seen (d + 1) (by omega) hs (by omega) (by rw [List.length_append]; simp; omega)
    refine ⟨C, hC, fun k hk => ?_⟩
    obtain ⟨k, rfl⟩ : ∃ q, k = q + 1 := ⟨k - 1, by omega⟩
    simp only [spec_l6Cycles.l1, impl_cycles.l1]
    rw [if_pos (by omega), if_pos (by omega), rdb, if_pos s, if_pos (by omega), if_pos (by omega), if_pos (by omega), if_pos s, if_pos (by omega), w_id (by omega) (by omega), show ((d : Int) + 1) = ((d + 1 : Nat) : Int) by omega]
    exact hk0 k (by omega)
   ·have s' : seen.getD cur false = false := by simpa using s
    have hn := nos_set seen cur (by omega) s'
    have hbd := hb cur hc
    obtain ⟨C, hC, hk0⟩ := ih1 out (seen.set cur true) d (own ++ [(cur : Int)]) (m.getD cur 0).toNat hd (by omega) (by rw [List.length_set]; exact hs) (by omega) ho (by rw [List.length_append]; simp; omega)
    refine ⟨C, hC, fun k hk => ?_⟩
    obtain ⟨k, rfl⟩ : ∃ q, k = q + 1 := ⟨k - 1, by omega⟩
    have e := hk0 k (by omega)
    rw [Int.toNat_of_nonneg hbd.1] at e
    simp only [spec_l6Cycles.l1, impl_cycles.l1]
    rw [if_pos (by omega), if_pos (by omega), rdb, if_neg s, if_pos (by omega), if_pos (by omega), if_pos (by omega), if_pos (by omega), if_neg s, if_pos (by omega), if_pos (by omega), rdg, Int.toNat_natCast]
    exact e
theorem cycles_f {m : List Int} (h2 : m.length ≤ 24) (hb : ∀ d, d < m.length → 0 ≤ m.getD d 0 ∧ m.getD d 0 < (m.length : Int)) : ∃ C : List (List Int), C.length ≤ 24 ∧ ∀ k, 100 < k → spec_l6Cycles.f k m = some C ∧ impl_cycles.f k m = some C := by
 have hn := nos_le (List.replicate m.length false)
 rw [List.length_replicate] at hn
 obtain ⟨C, hC, hk⟩ := (cyc h2 hb 100).1 [] (List.replicate m.length false) 0 (by omega) (by simp) (by omega) (by simp)
 refine ⟨C, by omega, fun k hkk => ?_⟩
 unfold spec_l6Cycles.f impl_cycles.f
 rw [if_pos (by omega), if_pos (by omega), if_pos (by omega), if_pos (by omega), Int.toNat_natCast]
 exact hk k hkk
/-- The mate of a dart, as the program and the reference tell it. -/
theorem xor_eq : ∀ d : Fin 24, Go.bits .xor .i64 ((d : Nat) : Int) 1 = (mateN (d : Nat) : Int) := by decide +kernel
theorem mate_eq : ∀ d : Fin 24, spec_l6Mate.f ((d : Nat) : Int) = some (mateN (d : Nat) : Int) := by decide +kernel
def dualL (m : List Int) : List Int := (List.range m.length).map fun d => m.getD (mateN d) 0
theorem dualL_len (m : List Int) : (dualL m).length = m.length := by simp [dualL]
theorem dualL_get (m : List Int) {i : Nat} (h : i < (dualL m).length) : (dualL m)[i] = m.getD (mateN i) 0 := by simp [dualL]
theorem mate_lt {m : List Int} (he : m.length % 2 = 0) {d : Nat} (h : d < m.length) : mateN d < m.length := by
 unfold mateN
 split <;> omega
theorem spec_dual_l0 {m : List Int} (h2 : m.length ≤ 24) (he : m.length % 2 = 0) : ∀ (d k i : Nat), i + d = m.length → d < k → spec_l6Dual.l0 k m ((dualL m).take i) (i : Int) = some (dualL m)
 | 0, k, i, hi, hk => by
  obtain ⟨k, rfl⟩ : ∃ m, k = m + 1 := ⟨k - 1, by omega⟩
  simp only [spec_l6Dual.l0]
  rw [if_neg (by omega), List.take_of_length_le (by rw [dualL_len]; omega)]
 | d + 1, k, i, hi, hk => by
  obtain ⟨k, rfl⟩ : ∃ m, k = m + 1 := ⟨k - 1, by omega⟩
  have hlt : i < (dualL m).length := by rw [dualL_len]; omega
  have hm := mate_lt he (show i < m.length by omega)
  have hme : spec_l6Mate.f (i : Int) = some (mateN i : Int) := mate_eq ⟨i, by omega⟩
  simp only [spec_l6Dual.l0]
  rw [if_pos (by omega), hme, Option.bind_some, if_pos (by omega), if_pos (by omega), if_pos (by rw [List.length_take]; omega), rdg, ← dualL_get m hlt, ← List.take_succ_eq_append_getElem hlt, w_id (by omega) (by omega), show ((i : Int) + 1) = ((i + 1 : Nat) : Int) by omega]
  exact spec_dual_l0 h2 he d k (i + 1) (by omega) (by omega)
theorem put_take {xs : List Int} {i : Nat} (h : i < xs.length) : (xs.take i ++ List.replicate (xs.length - i) 0).set i xs[i] = xs.take (i + 1) ++ List.replicate (xs.length - (i + 1)) 0 := by
 rw [List.set_append_right _ _ (by rw [List.length_take]; omega), List.length_take, show i - min i xs.length = 0 by omega, show xs.length - i = (xs.length - (i + 1)) + 1 by omega, List.replicate_succ, List.set_cons_zero, List.take_succ_eq_append_getElem h, List.append_assoc]
 rfl
theorem impl_dual_l0 {m : List Int} (h2 : m.length ≤ 24) (he : m.length % 2 = 0) : ∀ (d k i : Nat), i + d = m.length → d < k → impl_dual.l0 k m ((dualL m).take i ++ List.replicate (m.length - i) 0) (m.length : Int) (i : Int) = some (dualL m)
 | 0, k, i, hi, hk => by
  obtain ⟨k, rfl⟩ : ∃ m, k = m + 1 := ⟨k - 1, by omega⟩
  simp only [impl_dual.l0]
  rw [if_neg (by omega), List.take_of_length_le (by rw [dualL_len]; omega), show m.length - i = 0 by omega, List.replicate_zero, List.append_nil]
 | d + 1, k, i, hi, hk => by
  obtain ⟨k, rfl⟩ : ∃ m, k = m + 1 := ⟨k - 1, by omega⟩
  have hlt : i < (dualL m).length := by rw [dualL_len]; omega
  have hm := mate_lt he (show i < m.length by omega)
  have hx : Go.bits .xor .i64 (i : Int) 1 = (mateN i : Int) := xor_eq ⟨i, by omega⟩
  have hp := put_take hlt
  rw [dualL_len] at hp
  simp only [impl_dual.l0]
  rw [if_pos (by omega), hx, if_pos (by omega), if_pos (by omega), if_pos (by omega), if_pos (by rw [List.length_append, List.length_take, List.length_replicate, dualL_len]; omega), rdg, ← dualL_get m hlt, Int.toNat_natCast, hp, w_id (by omega) (by omega), show ((i : Int) + 1) = ((i + 1 : Nat) : Int) by omega]
  exact impl_dual_l0 h2 he d k (i + 1) (by omega) (by omega)
theorem dual_f {m : List Int} (h2 : m.length ≤ 24) (he : m.length % 2 = 0) (k : Nat) (hk : 30 < k) : spec_l6Dual.f k m = some (dualL m) ∧ impl_dual.f k m = some (dualL m) := by
 constructor
 ·exact spec_dual_l0 h2 he m.length k 0 (by omega) (by omega)
 ·unfold impl_dual.f
  rw [if_pos (by omega), if_pos (by omega), Int.toNat_natCast]
  have := impl_dual_l0 h2 he m.length k 0 (by omega) (by omega)
  rw [List.take_zero, List.nil_append] at this
  exact this
/-- Counting roots. -/
def cntR (up : List Int) (i : Nat) : Nat := ((List.range i).filter fun (k : Nat) => decide (UF.P up (k : Int) = (k : Int))).length
theorem cntR_succ (up : List Int) (i : Nat) : cntR up (i + 1) = cntR up i + (if UF.P up (i : Int) = (i : Int) then 1 else 0) := by
 unfold cntR
 rw [List.range_succ, List.filter_append, List.length_append]
 congr 1
 by_cases h : UF.P up (i : Int) = (i : Int)
 ·rw [if_pos h]; simp [h]
 ·rw [if_neg h]; simp [h]
theorem cntR_le (up : List Int) : ∀ i, cntR up i ≤ i
 | 0 => Nat.le_refl _
 | i + 1 => by
  have := cntR_le up i
  rw [cntR_succ]
  split <;> omega
theorem P_rd (up : List Int) (i : Nat) : UF.P up (i : Int) = rd up (i : Int) := rfl
theorem count_l0 (up : List Int) (hu : up.length ≤ 1000) : ∀ (d k i : Nat), i + d = up.length → d < k → joiner_count.l0 k up (cntR up i : Int) (i : Int) = some ((UF.roots up).length : Int)
 | 0, k, i, hi, hk => by
  obtain ⟨k, rfl⟩ : ∃ m, k = m + 1 := ⟨k - 1, by omega⟩
  simp only [joiner_count.l0]
  rw [if_neg (by omega), show i = up.length by omega]
  rfl
 | d + 1, k, i, hi, hk => by
  obtain ⟨k, rfl⟩ : ∃ m, k = m + 1 := ⟨k - 1, by omega⟩
  have hc := cntR_le up i
  have ih := count_l0 up hu d k (i + 1) (by omega) (by omega)
  rw [cntR_succ, P_rd] at ih
  simp only [joiner_count.l0]
  rw [if_pos (by omega), if_pos (by omega), w_id (a := (i : Int) + 1) (by omega) (by omega), show ((i : Int) + 1) = ((i + 1 : Nat) : Int) by omega]
  by_cases h : rd up (i : Int) = (i : Int)
  ·rw [if_pos h.symm, w_id (by omega) (by omega)]
   rw [if_pos h] at ih
   rw [show ((cntR up i : Int) + 1) = ((cntR up i + 1 : Nat) : Int) by omega]
   exact ih
  ·rw [if_neg (fun e => h e.symm)]
   rw [if_neg h, Nat.add_zero] at ih
   exact ih
theorem bit_g (b : Bool) : spec_l1Bit.f b = some (if b = true then 1 else 0) := by
 unfold spec_l1Bit.f
 cases b <;> rfl
theorem parts_l2 (m up : List Int) (hl : up.length = m.length) (hu : up.length ≤ 1000) : ∀ (d k i : Nat), i + d = up.length → d < k → spec_l6Parts.l2 k m up (cntR up i : Int) (i : Int) = some ((UF.roots up).length : Int)
 | 0, k, i, hi, hk => by
  obtain ⟨k, rfl⟩ : ∃ m, k = m + 1 := ⟨k - 1, by omega⟩
  simp only [spec_l6Parts.l2]
  rw [if_neg (by omega), show i = up.length by omega]
  rfl
 | d + 1, k, i, hi, hk => by
  obtain ⟨k, rfl⟩ : ∃ m, k = m + 1 := ⟨k - 1, by omega⟩
  have hc := cntR_le up i
  have ih := parts_l2 m up hl hu d k (i + 1) (by omega) (by omega)
  rw [cntR_succ, P_rd] at ih
  simp only [spec_l6Parts.l2]
  rw [if_pos (by omega), if_pos (by omega), if_pos (by omega), bit_g, Option.bind_some, w_id (a := (i : Int) + 1) (by omega) (by omega), show ((i : Int) + 1) = ((i + 1 : Nat) : Int) by omega]
  by_cases h : rd up (i : Int) = (i : Int)
  ·rw [if_pos (beq_iff_eq.2 h), w_id (by omega) (by omega)]
   rw [if_pos h] at ih
   rw [show ((cntR up i : Int) + 1) = ((cntR up i + 1 : Nat) : Int) by omega]
   exact ih
  ·have hb : ¬ ((rd up (i : Int) == (i : Int)) = true) := fun e => h (beq_iff_eq.1 e)
   rw [if_neg hb, w_id (by omega) (by omega), Int.add_zero]
   rw [if_neg h, Nat.add_zero] at ih
   exact ih
/-- What is joined at a dart of a row. -/
def gq (m : List Int) (d : Nat) : List (Int × Int) := [((d : Int), m.getD d 0), ((d : Int), (mateN d : Int))]
theorem mp_l0 {m : List Int} (h2 : m.length ≤ 24) (he : m.length % 2 = 0) (hb : ∀ d, d < m.length → 0 ≤ m.getD d 0 ∧ m.getD d 0 < (m.length : Int)) : ∀ (d k i : Nat) (xs : List Int) (ps : List (Int × Int)), i + d = m.length → d + 60 < k → UF.Stands xs (m.length : Int) ps →
  ∃ ys, impl_MapParts.l0 k m xs (i : Int) = some ((UF.roots ys).length : Int) ∧ UF.Stands ys (m.length : Int) (ps ++ allP (gq m) d i)
 | 0, k, i, xs, ps, hi, hk, S => by
  obtain ⟨k, rfl⟩ : ∃ m, k = m + 1 := ⟨k - 1, by omega⟩
  have hl := S.len
  refine ⟨xs, ?_, by rw [allP, List.append_nil]; exact S⟩
  simp only [impl_MapParts.l0]
  rw [if_neg (by omega)]
  exact count_l0 xs (by omega) xs.length k 0 (by omega) (by omega)
 | d + 1, k, i, xs, ps, hi, hk, S => by
  obtain ⟨k, rfl⟩ : ∃ m, k = m + 1 := ⟨k - 1, by omega⟩
  have hl := S.len
  have hx : Go.bits .xor .i64 (i : Int) 1 = (mateN i : Int) := xor_eq ⟨i, by omega⟩
  have hm := mate_lt he (show i < m.length by omega)
  obtain ⟨ys, e1, S1⟩ := join_f S (a := (i : Int)) (b := m.getD i 0) ⟨by omega, by omega⟩ (hb i (by omega)) (m := k) (by omega)
  have hl1 := S1.len
  obtain ⟨zs, e2, S2⟩ := join_f S1 (a := (i : Int)) (b := (mateN i : Int)) ⟨by omega, by omega⟩ ⟨by omega, by omega⟩ (m := k) (by omega)
  obtain ⟨us, e3, S3⟩ := mp_l0 h2 he hb d k (i + 1) zs _ (by omega) (by omega) S2
  refine ⟨us, ?_, by rw [allP]; rw [List.append_assoc, List.append_assoc] at S3; exact S3⟩
  simp only [impl_MapParts.l0]
  rw [if_pos (by omega), if_pos (by omega), rdg, e1, Option.bind_some, hx, e2, Option.bind_some, w_id (by omega) (by omega), show ((i : Int) + 1) = ((i + 1 : Nat) : Int) by omega]
  exact e3
theorem sp_l1 {m : List Int} (h2 : m.length ≤ 24) (he : m.length % 2 = 0) (hb : ∀ d, d < m.length → 0 ≤ m.getD d 0 ∧ m.getD d 0 < (m.length : Int)) : ∀ (d k i : Nat) (xs : List Int) (ps : List (Int × Int)), i + d = m.length → d + 60 < k → UF.Stands xs (m.length : Int) ps →
  ∃ ys, spec_l6Parts.l1 k m xs (i : Int) = some ((UF.roots ys).length : Int) ∧ UF.Stands ys (m.length : Int) (ps ++ allP (gq m) d i)
 | 0, k, i, xs, ps, hi, hk, S => by
  obtain ⟨k, rfl⟩ : ∃ m, k = m + 1 := ⟨k - 1, by omega⟩
  have hl := S.len
  refine ⟨xs, ?_, by rw [allP, List.append_nil]; exact S⟩
  simp only [spec_l6Parts.l1]
  rw [if_neg (by omega)]
  exact parts_l2 m xs (by omega) (by omega) xs.length k 0 (by omega) (by omega)
 | d + 1, k, i, xs, ps, hi, hk, S => by
  obtain ⟨k, rfl⟩ : ∃ m, k = m + 1 := ⟨k - 1, by omega⟩
  have hl := S.len
  have hme : spec_l6Mate.f (i : Int) = some (mateN i : Int) := mate_eq ⟨i, by omega⟩
  have hm := mate_lt he (show i < m.length by omega)
  have hbi := hb i (by omega)
  have ra := S.ok.rt (i := (i : Int)) (by omega) (by omega)
  have rb := S.ok.rt hbi.1 (by omega)
  have ba := S.ok.bd ra (by omega) (by omega)
  have S1 := (S.join (a := (i : Int)) (b := m.getD i 0) ⟨by omega, by omega⟩ hbi ra rb).1
  have hl1 := S1.len
  have ra1 := S1.ok.rt (i := (i : Int)) (by omega) (by omega)
  have rb1 := S1.ok.rt (i := (mateN i : Int)) (by omega) (by omega)
  have ba1 := S1.ok.bd ra1 (by omega) (by omega)
  have S2 := (S1.join (a := (i : Int)) (b := (mateN i : Int)) ⟨by omega, by omega⟩ ⟨by omega, by omega⟩ ra1 rb1).1
  obtain ⟨us, e3, S3⟩ := sp_l1 h2 he hb d k (i + 1) _ _ (by omega) (by omega) S2
  refine ⟨us, ?_, by rw [allP]; rw [List.append_assoc, List.append_assoc] at S3; exact S3⟩
  simp only [spec_l6Parts.l1]
  rw [if_pos (by omega), find3_f S.ok (by omega) (by omega) (by omega), Option.bind_some, if_pos (by omega), rdg, find3_f S.ok hbi.1 (by omega) (by omega), Option.bind_some, if_pos ba.1, if_pos ba.2, Option.bind_some, find3_f S1.ok (by omega) (by omega) (by omega), Option.bind_some, hme, Option.bind_some, find3_f S1.ok (by omega) (by omega) (by omega), Option.bind_some, if_pos ba1.1, if_pos (by omega), w_id (by omega) (by omega), show ((i : Int) + 1) = ((i + 1 : Nat) : Int) by omega]
  exact e3
theorem sp_l0 {m : List Int} (h2 : m.length ≤ 24) : ∀ (d k i : Nat), i + d = m.length → d < k → spec_l6Parts.l0 k m (UF.alone i) (i : Int) = spec_l6Parts.l1 (k - d - 1) m (UF.alone m.length) 0
 | 0, k, i, hi, hk => by
  obtain ⟨k, rfl⟩ : ∃ m, k = m + 1 := ⟨k - 1, by omega⟩
  simp only [spec_l6Parts.l0]
  rw [if_neg (by omega), show i = m.length by omega, show k + 1 - 0 - 1 = k by omega]
 | d + 1, k, i, hi, hk => by
  obtain ⟨k, rfl⟩ : ∃ m, k = m + 1 := ⟨k - 1, by omega⟩
  simp only [spec_l6Parts.l0]
  rw [if_pos (by omega), if_pos (by rw [alone_len]; omega), w_id (by omega) (by omega), show ((i : Int) + 1) = ((i + 1 : Nat) : Int) by omega, ← alone_succ, sp_l0 h2 d k (i + 1) (by omega) (by omega), show k + 1 - (d + 1) - 1 = k - d - 1 by omega]
theorem roots_same {u1 u2 : List Int} {n : Int} {ps : List (Int × Int)} (h1 : UF.Stands u1 n ps) (h2 : UF.Stands u2 n ps) : (UF.roots u1).length = (UF.roots u2).length := by
 have := (UF.roots_perm h1 h2 (fun i j => Iff.rfl)).length_eq
 rwa [List.length_map] at this
theorem parts_f {m : List Int} (h1 : 2 ≤ m.length) (h2 : m.length ≤ 24) (he : m.length % 2 = 0) (hb : ∀ d, d < m.length → 0 ≤ m.getD d 0 ∧ m.getD d 0 < (m.length : Int)) (hmap : ∀ k, 30 < k → impl_IsMap.f k m = some true) (k : Nat) (hk : 200 < k) :
  ∃ c : Nat, spec_l6Parts.f k m = some (c : Int) ∧ impl_MapParts.f k m = some (c : Int) ∧ ∃ up, UF.Stands up (m.length : Int) (allP (gq m) m.length 0) ∧ c = (UF.roots up).length := by
 have S0 := UF.alone_stands m.length
 obtain ⟨ys, e1, S1⟩ := mp_l0 h2 he hb m.length k 0 _ _ (by omega) (by omega) S0
 obtain ⟨zs, e2, S2⟩ := sp_l1 h2 he hb m.length (k - m.length - 1) 0 _ _ (by omega) (by omega) S0
 rw [List.nil_append] at S1 S2
 refine ⟨(UF.roots ys).length, ?_, ?_, ys, S1, rfl⟩
 ·unfold spec_l6Parts.f
  have := sp_l0 h2 m.length k 0 (by omega) (by omega)
  rw [show UF.alone 0 = [] from rfl] at this
  rw [show (0 : Int) = ((0 : Nat) : Int) from rfl, this, roots_same S1 S2]
  exact e2
 ·unfold impl_MapParts.f
  rw [hmap k (by omega), Option.bind_some, if_pos rfl, newJoiner_f m.length (by omega) k (by omega), Option.bind_some]
  exact e1
theorem tdiv2 (a : Int) : ∃ r, -1 ≤ r ∧ r ≤ 1 ∧ 2 * Int.tdiv a 2 + r = a := by
 rcases Int.lt_or_le a 0 with h | h
 ·have e : Int.tdiv a 2 = -(Int.tdiv (-a) 2) := by rw [Int.neg_tdiv, Int.neg_neg]
  rw [e, Int.tdiv_eq_ediv_of_nonneg (by omega)]
  exact ⟨a - 2 * -((-a) / 2), by omega, by omega, by omega⟩
 ·rw [Int.tdiv_eq_ediv_of_nonneg h]
  exact ⟨a - 2 * (a / 2), by omega, by omega, by omega⟩
/-- The genus, in both, and no more than the number of letters. -/
theorem genus_f {w : List Int} (h : cw w = true) (s : Int) : ∃ g : Int, g ≤ w.length ∧ ∀ k, 250 < k → spec_l6Genus.f k (mapR w s) = some g ∧ impl_GenusOf.f k (mapR w s) = some g := by
 obtain ⟨hw, _⟩ := cw_true h
 have hl := mapR_len w s
 have pm : Pm (mapR w s) (nx w s) := ⟨by omega, by omega, fun d hd => mapR_at h s (by omega), fun d hd => by rw [hl] at hd ⊢; exact (nx_bd h s hd).1, fun d e hd he hn => nx_inj h s (by omega) (by omega) hn⟩
 have hev : (mapR w s).length % 2 = 0 := by omega
 have hb : ∀ d, d < (mapR w s).length → 0 ≤ (mapR w s).getD d 0 ∧ (mapR w s).getD d 0 < ((mapR w s).length : Int) := by
  intro d hd
  rw [pm.at_ d hd]
  have := pm.bd d hd
  omega
 have hb2 : ∀ d, d < (dualL (mapR w s)).length → 0 ≤ (dualL (mapR w s)).getD d 0 ∧ (dualL (mapR w s)).getD d 0 < ((dualL (mapR w s)).length : Int) := by
  intro d hd
  rw [getD_at hd, dualL_get _ hd, dualL_len]
  rw [dualL_len] at hd
  exact hb _ (mate_lt hev hd)
 have hmap := isMap_f pm hev
 obtain ⟨V, hV, cV⟩ := cycles_f pm.hi hb
 obtain ⟨F, hF, cF⟩ := cycles_f (m := dualL (mapR w s)) (by rw [dualL_len]; exact pm.hi) hb2
 have key : ∀ k, 250 < k → ∃ c : Nat, c ≤ 1 ∧ spec_l6Parts.f k (mapR w s) = some (c : Int) ∧ impl_MapParts.f k (mapR w s) = some (c : Int) := by
  intro k hk
  obtain ⟨c, c1, c2, up, S, ec⟩ := parts_f (by omega) pm.hi hev hb hmap k (by omega)
  have hq : allP (gq (mapR w s)) (mapR w s).length 0 = prs w s := by
   unfold prs
   rw [hl]
   have gen : ∀ (n i : Nat), i + n ≤ 2 * w.length → allP (gq (mapR w s)) n i = allP (gp w s) n i := by
    intro n
    induction n with
    | zero => intro i _; rfl
    | succ n ih =>
     intro i hi
     rw [allP, allP, ih (i + 1) (by omega)]
     unfold gq gp
     rw [mapR_at h s (by omega)]
   exact gen _ _ (by omega)
  rw [hq, hl, show ((2 * w.length : Nat) : Int) = 2 * (w.length : Int) by omega] at S
  exact ⟨c, by rw [ec]; exact one_root h s S, c1, c2⟩
 obtain ⟨c, hc, c1, c2⟩ := key 251 (by omega)
 have lift1 : ∀ k, 250 < k → spec_l6Parts.f k (mapR w s) = some (c : Int) := fun k hk => at_rounds (fun k => spec_l6Parts.mono (mapR w s) k) (by omega) c1
 have lift2 : ∀ k, 250 < k → impl_MapParts.f k (mapR w s) = some (c : Int) := fun k hk => at_rounds (fun k => impl_MapParts.mono (mapR w s) k) (by omega) c2
 obtain ⟨r, r1, r2, r3⟩ := tdiv2 ((V.length : Int) - w.length + F.length)
 have w1 : wrap64 (((mapR w s).length : Int) / 2) = (w.length : Int) := by rw [hl]; exact (w_id (by omega) (by omega)).trans (by omega)
 have w2 : wrap64 ((V.length : Int) - w.length) = (V.length : Int) - w.length := w_id (by omega) (by omega)
 have w3 : wrap64 ((V.length : Int) - w.length + F.length) = (V.length : Int) - w.length + F.length := w_id (by omega) (by omega)
 have w4 : wrap64 (Int.tdiv ((V.length : Int) - w.length + F.length) 2) = Int.tdiv ((V.length : Int) - w.length + F.length) 2 := by clear w1 w2 w3; exact w_id (by omega) (by omega)
 have w5 : wrap64 ((c : Int) - Int.tdiv ((V.length : Int) - w.length + F.length) 2) = (c : Int) - Int.tdiv ((V.length : Int) - w.length + F.length) 2 := by clear w1 w2 w3 w4; exact w_id (by omega) (by omega)
 refine ⟨(c : Int) - Int.tdiv ((V.length : Int) - w.length + F.length) 2, by clear w1 w2 w3 w4 w5; omega, fun k hk => ⟨?_, ?_⟩⟩
 ·unfold spec_l6Genus.f
  rw [lift1 k hk, Option.bind_some, (cV k (by omega)).1, Option.bind_some, (dual_f pm.hi hev k (by omega)).1, Option.bind_some, (cF k (by omega)).1, Option.bind_some, w1, w2, w3, w4, w5]
 ·unfold impl_GenusOf.f
  rw [hmap k (by omega), Option.bind_some, if_pos rfl, lift2 k hk, Option.bind_some, (cV k (by omega)).2, Option.bind_some, (dual_f pm.hi hev k (by omega)).2, Option.bind_some, (cF k (by omega)).2, Option.bind_some, w1, w2, w3, w4, w5]
end Go.Proofs.Ytkmjcdlhlhefdaa.L

namespace Go.Proofs.Ytkmjcdlhlhefdaa.L
set_option maxRecDepth 100000
set_option linter.unusedVariables false
/-- f of x, x being told by its number first (so that the kernel reckons it once). -/
noncomputable def frc {α : Type} (x : Nat) (f : Nat → α) : α := Nat.rec (f 0) (fun n _ => f (Nat.succ n)) x
/-- The cycles of the permutation P (five bits a place): d0 the place that is asked for, cur where the walk stands, seen the places that were met, c the cycles so far. -/
noncomputable def lp (P k : Nat) : Nat → Nat → Nat → Nat → Nat :=
 Nat.rec (fun _ _ _ c => c) (fun _ ih d0 cur seen c =>
  cond (Nat.beq (Nat.land (Nat.shiftRight seen cur) 1) 1) (ih (Nat.succ d0) (Nat.succ d0) seen c)
   (frc (Nat.land (Nat.shiftRight P (Nat.mul 5 cur)) 31) fun nx => frc (Nat.lor seen (Nat.shiftLeft 1 cur)) fun sn => ih d0 nx sn (cond (Nat.beq cur d0) (Nat.succ c) c))) k
def mateK (d : Nat) : Nat := cond (Nat.beq (Nat.land d 1) 0) (Nat.add d 1) (Nat.sub d 1)
def f5 (e x : Nat) : Nat := Nat.mul x (Nat.pow 32 e)
/-- The greatest number of cycles over all choices. -/
noncomputable def best (N : Nat) (L : List (Nat × Nat)) : Nat → Nat → Nat :=
 List.rec (fun P m => frc (lp P (Nat.mul 2 N) 0 0 0 0) fun c => cond (Nat.ble m c) c m) (fun z _ ih P m => frc (Nat.add P z.1) fun P1 => frc (ih P1 m) fun m1 => frc (Nat.add P z.2) fun P2 => ih P2 m1) L
/-- Has each choice c cycles? -/
noncomputable def each (N c : Nat) (L : List (Nat × Nat)) : Nat → Bool :=
 List.rec (fun P => Nat.beq (lp P (Nat.mul 2 N) 0 0 0 0) c) (fun z _ ih P => frc (Nat.add P z.1) fun P1 => cond (ih P1) (frc (Nat.add P z.2) fun P2 => ih P2) false) L
def pv (n p : Nat) : Nat := Nat.add (Nat.mul 2 (cond (Nat.beq p 0) (Nat.sub n 1) (Nat.sub p 1))) 1
noncomputable def ringK {α : Type} (g : Nat → Nat) (n p q : Nat) (K : Nat → Nat → α) : α :=
 frc (Nat.mul 2 p) fun r0 => frc (Nat.mul 2 q) fun r1 => frc (pv n p) fun r2 => frc (pv n q) fun r3 =>
 frc (Nat.add (Nat.add (f5 (g r0) r1) (f5 (g r1) r2)) (Nat.add (f5 (g r2) r3) (f5 (g r3) r0))) fun x =>
 frc (Nat.add (Nat.add (f5 (g r0) r3) (f5 (g r1) r0)) (Nat.add (f5 (g r2) r1) (f5 (g r3) r2))) fun y => K x y
noncomputable def layK {α : Type} (g : Nat → Nat) (n : Nat) (L : List (Nat × Nat)) (K : List (Nat × Nat) → α) : List (Nat × Nat) → α :=
 List.rec (fun R => K R) (fun z _ ih R => ringK g n z.1 z.2 fun x y => ih ((x, y) :: R)) L
noncomputable def mxF (n : Nat) (L : List (Nat × Nat)) : Nat := layK mateK n L (fun R => best (Nat.mul 2 n) R 0 0) []
def shK (b i : Nat) : Nat := cond (Nat.ble (Nat.succ i) b) (Nat.add i 1) (Nat.add i 2)
/-- A chord from place 0 to place b + 1 is laid into a word. -/
noncomputable def insK {α : Type} (b : Nat) (L : List (Nat × Nat)) : (List (Nat × Nat) → α) → α :=
 List.rec (fun K => K [(0, Nat.succ b)]) (fun z _ ih K => frc (shK b z.1) fun p => frc (shK b z.2) fun q => ih fun M => K ((p, q) :: M)) L
def oddK (z : Nat × Nat) : Bool := Nat.beq (Nat.land (Nat.sub z.2 z.1) 1) 1
noncomputable def allB (m : Nat) (f : Nat → Bool) : Bool := Nat.rec true (fun i ih => cond (f i) ih false) m
/-- All words that come of L by n more letters. -/
noncomputable def walkK (C : Nat → List (Nat × Nat) → Bool) (n : Nat) : Nat → List (Nat × Nat) → Bool :=
 Nat.rec (fun l L => C l L) (fun _ ih l L => allB (Nat.succ (Nat.mul 2 l)) fun b => insK b L fun M => ih (Nat.succ l) M) n
noncomputable def mapK {α : Type} (f : Nat → Nat → Nat) (g : Nat → Nat → Nat) (L : List (Nat × Nat)) : (List (Nat × Nat) → α) → α :=
 List.rec (fun K => K []) (fun z _ ih K => frc (f z.1 z.2) fun p => frc (g z.1 z.2) fun q => ih fun M => K ((p, q) :: M)) L
noncomputable def planarK (l : Nat) (L : List (Nat × Nat)) (m : Nat) : Bool := cond (L.all oddK) true (Nat.ble m l)
noncomputable def turnedK (l : Nat) (L : List (Nat × Nat)) (m : Nat) : Bool :=
 mapK (fun p q => cond (Nat.beq p 0) (Nat.sub q 1) (Nat.sub p 1)) (fun p q => cond (Nat.beq p 0) (Nat.sub (Nat.mul 2 l) 1) (Nat.sub q 1)) L fun M => Nat.beq (mxF (Nat.mul 2 l) M) m
def adjK (n : Nat) (z : Nat × Nat) : Bool := cond (Nat.beq z.2 (Nat.succ z.1)) true (cond (Nat.beq z.1 0) (Nat.beq (Nat.succ z.2) n) false)
def loK (p q i : Nat) : Nat := Nat.sub (Nat.sub i (cond (Nat.ble (Nat.succ p) i) 1 0)) (cond (Nat.ble (Nat.succ q) i) 1 0)
noncomputable def loopsK (l : Nat) (L : List (Nat × Nat)) (m : Nat) : Bool :=
 cond (Nat.ble l 1) true (L.all fun z => cond (adjK (Nat.mul 2 l) z) (mapK (fun a _ => loK z.1 z.2 a) (fun _ b => loK z.1 z.2 b) (L.filter fun y => cond (Nat.beq y.1 z.1) false true) fun M => Nat.beq (Nat.succ (mxF (Nat.sub (Nat.mul 2 l) 2) M)) m) true)
noncomputable def vertsK (l : Nat) (L : List (Nat × Nat)) : Bool := layK (fun d => d) (Nat.mul 2 l) L (fun R => each (Nat.mul 4 l) l R 0) []
noncomputable def facesK (l : Nat) (L : List (Nat × Nat)) : Bool := frc (mxF (Nat.mul 2 l) L) fun m => cond (planarK l L m) (cond (turnedK l L m) (loopsK l L m) false) false

theorem frc_eq {α : Type} (x : Nat) (f : Nat → α) : frc x f = f x := by cases x <;> rfl
theorem insK_eq {α : Type} (b : Nat) : ∀ (L : List (Nat × Nat)) (K : List (Nat × Nat) → α), insK b L K = K (L.map (fun z => (shK b z.1, shK b z.2)) ++ [(0, b + 1)])
 | [], K => rfl
 | z :: L, K => by
  show frc (shK b z.1) (fun p => frc (shK b z.2) fun q => insK b L fun M => K ((p, q) :: M)) = _
  rw [frc_eq, frc_eq, insK_eq b L]
  rfl
theorem mapK_eq {α : Type} (f g : Nat → Nat → Nat) : ∀ (L : List (Nat × Nat)) (K : List (Nat × Nat) → α), mapK f g L K = K (L.map (fun z => (f z.1 z.2, g z.1 z.2)))
 | [], K => rfl
 | z :: L, K => by
  show frc (f z.1 z.2) (fun p => frc (g z.1 z.2) fun q => mapK f g L fun M => K ((p, q) :: M)) = _
  rw [frc_eq, frc_eq, mapK_eq f g L]
  rfl
theorem allB_iff (f : Nat → Bool) : ∀ m, allB m f = true ↔ ∀ b, b < m → f b = true
 | 0 => ⟨fun _ b hb => absurd hb (Nat.not_lt_zero _), fun _ => rfl⟩
 | m + 1 => by
  show cond (f m) (allB m f) false = true ↔ _
  cases h : f m with
  | false => simp only [cond_false]; exact ⟨fun e => by simp at e, fun e => by have := e m (by omega); rw [h] at this; exact this⟩
  | true =>
   simp only [cond_true]
   rw [allB_iff f m]
   exact ⟨fun e b hb => (Nat.lt_succ_iff_lt_or_eq.1 hb).elim (fun hb => e b hb) (fun hb => by rw [hb]; exact h), fun e b hb => e b (by omega)⟩
/-- A chord more. -/
def insL (b : Nat) (L : List (Nat × Nat)) : List (Nat × Nat) := L.map (fun z => (shK b z.1, shK b z.2)) ++ [(0, b + 1)]
/-- The words that walkK meets. -/
inductive Met (l0 : Nat) (L0 : List (Nat × Nat)) : Nat → List (Nat × Nat) → Prop
 | base : Met l0 L0 l0 L0
 | step {l L} (b : Nat) : Met l0 L0 l L → b < 2 * l + 1 → Met l0 L0 (l + 1) (insL b L)
theorem walkK_succ (C : Nat → List (Nat × Nat) → Bool) (n l : Nat) (L : List (Nat × Nat)) : walkK C (n + 1) l L = true ↔ ∀ b, b < 2 * l + 1 → walkK C n (l + 1) (insL b L) = true := by
 show allB (Nat.succ (Nat.mul 2 l)) (fun b => insK b L fun M => walkK C n (Nat.succ l) M) = true ↔ _
 rw [allB_iff]
 constructor
 ·intro h b hb
  have := h b hb
  rw [insK_eq] at this
  exact this
 ·intro h b hb
  rw [insK_eq]
  exact h b hb
theorem walkK_add (C : Nat → List (Nat × Nat) → Bool) : ∀ (a b l : Nat) (L : List (Nat × Nat)), walkK (fun l M => walkK C a l M) b l L = true → walkK C (b + a) l L = true
 | a, 0, l, L, h => by rw [Nat.zero_add]; exact h
 | a, b + 1, l, L, h => by
  rw [show b + 1 + a = (b + a) + 1 by omega, walkK_succ]
  rw [walkK_succ] at h
  exact fun c hc => walkK_add C a b (l + 1) _ (h c hc)
theorem met_walk {C : Nat → List (Nat × Nat) → Bool} {l0 : Nat} {L0 : List (Nat × Nat)} {l : Nat} {L : List (Nat × Nat)} (h : Met l0 L0 l L) : ∀ n, walkK C (l - l0 + n) l0 L0 = true → walkK C n l L = true := by
 induction h with
 | base => intro n hn; rw [Nat.sub_self, Nat.zero_add] at hn; exact hn
 | @step l L b hm hb ih =>
  intro n hn
  have hle : l0 ≤ l := by
   clear ih hn hb
   induction hm with
   | base => exact Nat.le_refl _
   | step b _ _ ih => omega
  have := ih (n + 1) (by rw [show l - l0 + (n + 1) = l + 1 - l0 + n by omega]; exact hn)
  exact (walkK_succ C n l L).1 this b hb
theorem lp_zero (P d0 cur seen c : Nat) : lp P 0 d0 cur seen c = c := rfl
theorem lp_succ (P k d0 cur seen c : Nat) : lp P (k + 1) d0 cur seen c = if seen / 2 ^ cur % 2 = 1 then lp P k (d0 + 1) (d0 + 1) seen c else lp P k d0 (P / 32 ^ cur % 32) (seen ||| 2 ^ cur) (if cur = d0 then c + 1 else c) := by
 show cond (Nat.beq (Nat.land (Nat.shiftRight seen cur) 1) 1) (lp P k (Nat.succ d0) (Nat.succ d0) seen c) (frc (Nat.land (Nat.shiftRight P (Nat.mul 5 cur)) 31) fun nx => frc (Nat.lor seen (Nat.shiftLeft 1 cur)) fun sn => lp P k d0 nx sn (cond (Nat.beq cur d0) (Nat.succ c) c)) = _
 rw [frc_eq, frc_eq]
 have e1 : Nat.land (Nat.shiftRight seen cur) 1 = seen / 2 ^ cur % 2 := by
  show (seen >>> cur) &&& 1 = _
  rw [Nat.and_one_is_mod, Nat.shiftRight_eq_div_pow]
 have e2 : Nat.land (Nat.shiftRight P (Nat.mul 5 cur)) 31 = P / 32 ^ cur % 32 := by
  show (P >>> (5 * cur)) &&& (2 ^ 5 - 1) = _
  rw [Nat.and_two_pow_sub_one_eq_mod, Nat.shiftRight_eq_div_pow, Nat.pow_mul]
 have e3 : Nat.lor seen (Nat.shiftLeft 1 cur) = seen ||| 2 ^ cur := by
  show seen ||| (1 <<< cur) = _
  rw [Nat.shiftLeft_eq, Nat.one_mul]
 rw [e1, e2, e3]
 by_cases h : seen / 2 ^ cur % 2 = 1
 ·rw [if_pos h, h]
  rfl
 ·rw [if_neg h, show Nat.beq (seen / 2 ^ cur % 2) 1 = false from Bool.eq_false_iff.2 (fun e => h (Nat.eq_of_beq_eq_true e))]
  by_cases h2 : cur = d0
  ·subst h2
   rw [if_pos rfl, Nat.beq_refl]
   rfl
  ·rw [if_neg h2, show Nat.beq cur d0 = false from Bool.eq_false_iff.2 (fun e => h2 (Nat.eq_of_beq_eq_true e))]
   rfl

/-- A sum of numbers below 32, each at its own place. -/
def T (ps : List (Nat × Nat)) : Nat := (ps.map fun p => p.2 * 32 ^ p.1).sum
/-- The numbers below place n. -/
def S (v : Nat → Nat) : Nat → Nat
 | 0 => 0
 | n + 1 => S v n + v n * 32 ^ n
theorem S_lt {v : Nat → Nat} (hv : ∀ d, v d < 32) : ∀ n, S v n < 32 ^ n
 | 0 => by simp [S]
 | n + 1 => by
  have h1 := S_lt hv n
  have h2 : v n * 32 ^ n ≤ 31 * 32 ^ n := Nat.mul_le_mul_right _ (by have := hv n; omega)
  have h3 : 32 ^ (n + 1) = 32 * 32 ^ n := by rw [Nat.pow_succ, Nat.mul_comm]
  show S v n + v n * 32 ^ n < _
  omega
theorem S_up (v : Nat → Nat) (e : Nat) : ∀ d, ∃ r, S v (e + 1 + d) = S v (e + 1) + r * 32 ^ (e + 1)
 | 0 => ⟨0, by simp⟩
 | d + 1 => by
  obtain ⟨r, hr⟩ := S_up v e d
  refine ⟨r + v (e + 1 + d) * 32 ^ d, ?_⟩
  show S v (e + 1 + d) + v (e + 1 + d) * 32 ^ (e + 1 + d) = _
  rw [hr, Nat.add_mul, Nat.mul_assoc, ← Nat.pow_add, Nat.add_comm d (e + 1), Nat.add_assoc]
theorem S_dig {v : Nat → Nat} (hv : ∀ d, v d < 32) {e n : Nat} (h : e < n) : S v n / 32 ^ e % 32 = v e := by
 obtain ⟨d, rfl⟩ : ∃ d, n = e + 1 + d := ⟨n - (e + 1), by omega⟩
 obtain ⟨r, hr⟩ := S_up v e d
 have hp : 0 < 32 ^ e := Nat.pow_pos (by decide)
 have h3 : 32 ^ (e + 1) = 32 ^ e * 32 := Nat.pow_succ ..
 have e1 : S v (e + 1 + d) = S v e + 32 ^ e * (v e + 32 * r) := by
  rw [hr]
  show S v e + v e * 32 ^ e + r * 32 ^ (e + 1) = _
  rw [h3, Nat.mul_add, Nat.mul_comm (v e), Nat.add_assoc]
  congr 2
  rw [Nat.mul_left_comm, Nat.mul_comm r 32]
 rw [e1, Nat.add_mul_div_left _ _ hp, Nat.div_eq_of_lt (S_lt hv e), Nat.zero_add, Nat.add_mul_mod_self_left, Nat.mod_eq_of_lt (hv e)]
theorem S_ext {v u : Nat → Nat} : ∀ n, (∀ d, d < n → v d = u d) → S v n = S u n
 | 0, _ => rfl
 | n + 1, h => by
  show S v n + v n * 32 ^ n = S u n + u n * 32 ^ n
  rw [S_ext n (fun d hd => h d (by omega)), h n (by omega)]
theorem S_upd {v : Nat → Nat} {e x : Nat} (h0 : v e = 0) : ∀ n, e < n → S (fun d => if d = e then x else v d) n = S v n + x * 32 ^ e
 | 0, h => absurd h (Nat.not_lt_zero _)
 | n + 1, h => by
  show S (fun d => if d = e then x else v d) n + (if n = e then x else v n) * 32 ^ n = S v n + v n * 32 ^ n + x * 32 ^ e
  by_cases hn : n = e
  ·subst hn
   rw [if_pos rfl, h0, S_ext (u := v) n (fun d hd => if_neg (by omega))]
   omega
  ·rw [if_neg hn, S_upd h0 n (by omega)]
   omega
theorem S_zero : ∀ n, S (fun _ => 0) n = 0
 | 0 => rfl
 | n + 1 => by show S (fun _ => 0) n + 0 * 32 ^ n = 0; rw [S_zero n, Nat.zero_mul]
/-- What stands at a place. -/
def val (ps : List (Nat × Nat)) (d : Nat) : Nat := match ps with
 | [] => 0
 | p :: t => if d = p.1 then p.2 else val t d
theorem val_none : ∀ (ps : List (Nat × Nat)) (d : Nat), (∀ p ∈ ps, p.1 ≠ d) → val ps d = 0
 | [], _, _ => rfl
 | p :: t, d, h => by
  show (if d = p.1 then p.2 else val t d) = 0
  rw [if_neg (fun e => h p (by simp) e.symm), val_none t d (fun q hq => h q (by simp [hq]))]
theorem val_some : ∀ (ps : List (Nat × Nat)), (ps.map Prod.fst).Nodup → ∀ p ∈ ps, val ps p.1 = p.2
 | [], _, p, h => by cases h
 | q :: t, hn, p, h => by
  rw [List.map_cons, List.nodup_cons] at hn
  show (if p.1 = q.1 then q.2 else val t p.1) = p.2
  rcases List.mem_cons.1 h with rfl | h
  ·rw [if_pos rfl]
  ·rw [if_neg (fun e => hn.1 (by rw [← e]; exact List.mem_map_of_mem h)), val_some t hn.2 p h]
theorem T_val (n : Nat) : ∀ (ps : List (Nat × Nat)), (ps.map Prod.fst).Nodup → (∀ p ∈ ps, p.1 < n) → T ps = S (val ps) n
 | [], _, _ => by
  exact (S_zero n).symm
 | q :: t, hn, hb => by
  rw [List.map_cons, List.nodup_cons] at hn
  have h0 : val t q.1 = 0 := val_none t q.1 (fun p hp e => hn.1 (by rw [← e]; exact List.mem_map_of_mem hp))
  have := S_upd (x := q.2) h0 n (hb q (by simp))
  show (q.2 * 32 ^ q.1) + T t = S (fun d => if d = q.1 then q.2 else val t d) n
  rw [this, T_val n t hn.2 (fun p hp => hb p (by simp [hp])), Nat.add_comm]
theorem val_lt : ∀ (ps : List (Nat × Nat)), (∀ p ∈ ps, p.2 < 32) → ∀ d, val ps d < 32
 | [], _, _ => by show 0 < 32; decide
 | q :: t, h, d => by
  show (if d = q.1 then q.2 else val t d) < 32
  split
  ·exact h q (by simp)
  ·exact val_lt t (fun p hp => h p (by simp [hp])) d
/-- The number at a place is what was laid there. -/
theorem T_dig {ps : List (Nat × Nat)} (hn : (ps.map Prod.fst).Nodup) (hx : ∀ p ∈ ps, p.2 < 32) {p : Nat × Nat} (hp : p ∈ ps) : T ps / 32 ^ p.1 % 32 = p.2 := by
 have hb : ∀ q ∈ ps, q.1 < (ps.map Prod.fst).foldr Nat.max 0 + 1 := by
  intro q hq
  have : ∀ (l : List Nat), ∀ x ∈ l, x ≤ l.foldr Nat.max 0 := by
   intro l
   induction l with
   | nil => intro x hx; cases hx
   | cons a t ih =>
    intro x hx
    rcases List.mem_cons.1 hx with rfl | hx
    ·exact Nat.le_max_left _ _
    ·exact Nat.le_trans (ih x hx) (Nat.le_max_right _ _)
  exact Nat.lt_succ_of_le (this _ _ (List.mem_map_of_mem hq))
 rw [T_val _ ps hn hb, S_dig (val_lt ps hx) (hb p hp), val_some ps hn p hp]
/-- One of each pair, by a choice. -/
def csum : List (Nat × Nat) → List Bool → Nat
 | z :: R, b :: bs => (if b = true then z.2 else z.1) + csum R bs
 | _, _ => 0
theorem best_spec (N : Nat) : ∀ (R : List (Nat × Nat)) (P m : Nat), m ≤ best N R P m ∧ (∀ bs : List Bool, bs.length = R.length → lp (P + csum R bs) (2 * N) 0 0 0 0 ≤ best N R P m) ∧ (best N R P m = m ∨ ∃ bs : List Bool, bs.length = R.length ∧ best N R P m = lp (P + csum R bs) (2 * N) 0 0 0 0)
 | [], P, m => by
  have e : best N [] P m = if m ≤ lp P (2 * N) 0 0 0 0 then lp P (2 * N) 0 0 0 0 else m := by
   show frc (lp P (Nat.mul 2 N) 0 0 0 0) (fun c => cond (Nat.ble m c) c m) = _
   rw [frc_eq]
   by_cases h : m ≤ lp P (2 * N) 0 0 0 0
   ·rw [if_pos h, show Nat.ble m (lp P (Nat.mul 2 N) 0 0 0 0) = true from Nat.ble_eq_true_of_le h]
    rfl
   ·rw [if_neg h, show Nat.ble m (lp P (Nat.mul 2 N) 0 0 0 0) = false from Bool.eq_false_iff.2 (fun e => h (Nat.le_of_ble_eq_true e))]
    rfl
  rw [e]
  refine ⟨by split <;> omega, fun bs hb => ?_, ?_⟩
  ·have : csum [] bs = 0 := by cases bs <;> rfl
   rw [this, Nat.add_zero]
   split <;> omega
  ·split
   ·exact .inr ⟨[], rfl, rfl⟩
   ·exact .inl rfl
 | z :: R, P, m => by
  have e : best N (z :: R) P m = best N R (P + z.2) (best N R (P + z.1) m) := by
   show frc (Nat.add P z.1) (fun P1 => frc (best N R P1 m) fun m1 => frc (Nat.add P z.2) fun P2 => best N R P2 m1) = _
   rw [frc_eq, frc_eq, frc_eq]
   rfl
  rw [e]
  obtain ⟨a1, a2, a3⟩ := best_spec N R (P + z.1) m
  obtain ⟨b1, b2, b3⟩ := best_spec N R (P + z.2) (best N R (P + z.1) m)
  refine ⟨Nat.le_trans a1 b1, fun bs hb => ?_, ?_⟩
  ·cases bs with
   | nil => simp at hb
   | cons b bs =>
    have hl : bs.length = R.length := by simpa using hb
    cases b with
    | false => exact Nat.le_trans (by have := a2 bs hl; rw [Nat.add_assoc] at this; exact this) b1
    | true => have := b2 bs hl; rw [Nat.add_assoc] at this; exact this
  ·rcases b3 with b3 | ⟨bs, h1, h2⟩
   ·rw [b3]
    rcases a3 with a3 | ⟨bs, h1, h2⟩
    ·exact .inl a3
    ·exact .inr ⟨false :: bs, by simp [h1], by rw [h2, Nat.add_assoc]; rfl⟩
   ·exact .inr ⟨true :: bs, by simp [h1], by rw [h2, Nat.add_assoc]; rfl⟩
theorem each_spec (N c : Nat) : ∀ (R : List (Nat × Nat)) (P : Nat), each N c R P = true → ∀ bs : List Bool, bs.length = R.length → lp (P + csum R bs) (2 * N) 0 0 0 0 = c
 | [], P, h, bs, _ => by
  have : csum [] bs = 0 := by cases bs <;> rfl
  rw [this, Nat.add_zero]
  exact Nat.eq_of_beq_eq_true h
 | z :: R, P, h, bs, hb => by
  have e : each N c (z :: R) P = cond (each N c R (P + z.1)) (each N c R (P + z.2)) false := by
   show frc (Nat.add P z.1) (fun P1 => cond (each N c R P1) (frc (Nat.add P z.2) fun P2 => each N c R P2) false) = _
   rw [frc_eq, frc_eq]
   rfl
  rw [e] at h
  cases h1 : each N c R (P + z.1) with
  | false => rw [h1] at h; cases h
  | true =>
   rw [h1] at h
   cases bs with
   | nil => simp at hb
   | cons b bs =>
    have hl : bs.length = R.length := by simpa using hb
    cases b with
    | false => have := each_spec N c R _ h1 bs hl; rw [Nat.add_assoc] at this; exact this
    | true => have := each_spec N c R _ h bs hl; rw [Nat.add_assoc] at this; exact this

/-- A ring of four darts, laid at g's places: for either turn. -/
def ringP (g : Nat → Nat) (n p q : Nat) (b : Bool) : List (Nat × Nat) :=
 if b = true then [(g (2 * p), pv n q), (g (2 * q), 2 * p), (g (pv n p), 2 * q), (g (pv n q), pv n p)]
 else [(g (2 * p), 2 * q), (g (2 * q), pv n p), (g (pv n p), pv n q), (g (pv n q), 2 * p)]
theorem T_cons (p : Nat × Nat) (t : List (Nat × Nat)) : T (p :: t) = p.2 * 32 ^ p.1 + T t := rfl
theorem T_app (a b : List (Nat × Nat)) : T (a ++ b) = T a + T b := by
 unfold T
 rw [List.map_append, List.sum_append]
theorem T_four (a b c d : Nat × Nat) : T [a, b, c, d] = a.2 * 32 ^ a.1 + b.2 * 32 ^ b.1 + (c.2 * 32 ^ c.1 + d.2 * 32 ^ d.1) := by
 rw [T_cons, T_cons, T_cons, T_cons]
 show _ + (_ + (_ + (_ + 0))) = _
 omega
def rc (g : Nat → Nat) (n : Nat) (z : Nat × Nat) : Nat × Nat := (T (ringP g n z.1 z.2 false), T (ringP g n z.1 z.2 true))
theorem ringK_eq {α : Type} (g : Nat → Nat) (n p q : Nat) (K : Nat → Nat → α) : ringK g n p q K = K (rc g n (p, q)).1 (rc g n (p, q)).2 := by
 unfold ringK
 simp only [frc_eq]
 show K (_ + _ + (_ + _)) (_ + _ + (_ + _)) = K (T [_, _, _, _]) (T [_, _, _, _])
 rw [T_four, T_four]
 rfl
theorem layK_eq {α : Type} (g : Nat → Nat) (n : Nat) (K : List (Nat × Nat) → α) : ∀ (L R : List (Nat × Nat)), layK g n L K R = K ((L.map (rc g n)).reverse ++ R)
 | [], R => rfl
 | z :: L, R => by
  show ringK g n z.1 z.2 (fun x y => layK g n L K ((x, y) :: R)) = _
  rw [ringK_eq, layK_eq g n K L, List.map_cons, List.reverse_cons, List.append_assoc]
  rfl
theorem csum_app : ∀ (R1 R2 : List (Nat × Nat)) (b1 b2 : List Bool), b1.length = R1.length → csum (R1 ++ R2) (b1 ++ b2) = csum R1 b1 + csum R2 b2
 | [], R2, b1, b2, h => by
  have : b1 = [] := List.length_eq_zero_iff.1 h
  subst this
  show csum R2 b2 = 0 + csum R2 b2
  rw [Nat.zero_add]
 | z :: R1, R2, b1, b2, h => by
  cases b1 with
  | nil => simp at h
  | cons b b1 =>
   show (if b = true then z.2 else z.1) + csum (R1 ++ R2) (b1 ++ b2) = (if b = true then z.2 else z.1) + csum R1 b1 + csum R2 b2
   rw [csum_app R1 R2 b1 b2 (by simpa using h), Nat.add_assoc]
/-- A choice by letters. -/
theorem csum_ls (g : Nat → Nat) (n : Nat) (c : Int → Nat × Nat) (f : Int → Bool) : ∀ ls : List Int, csum ((ls.map fun x => rc g n (c x)).reverse) ((ls.map f).reverse) = T (ls.flatMap fun x => ringP g n (c x).1 (c x).2 (f x))
 | [] => rfl
 | x :: ls => by
  rw [List.map_cons, List.map_cons, List.reverse_cons, List.reverse_cons, csum_app _ _ _ _ (by simp), csum_ls g n c f ls, List.flatMap_cons, T_app, Nat.add_comm]
  congr 1
  show (if f x = true then (rc g n (c x)).2 else (rc g n (c x)).1) + 0 = _
  rw [Nat.add_zero]
  unfold rc
  cases f x <;> rfl
/-- Each choice is one by letters. -/
theorem by_letters : ∀ (ls : List Int), ls.Nodup → ∀ bs : List Bool, bs.length = ls.length → ∃ f : Int → Bool, bs = ls.map f
 | [], _, bs, h => ⟨fun _ => false, List.length_eq_zero_iff.1 h⟩
 | x :: ls, hn, bs, h => by
  cases bs with
  | nil => simp at h
  | cons b bs =>
   rw [List.nodup_cons] at hn
   obtain ⟨f, rfl⟩ := by_letters ls hn.2 bs (by simpa using h)
   refine ⟨fun y => if y = x then b else f y, ?_⟩
   rw [List.map_cons, if_pos rfl]
   congr 1
   exact List.map_congr_left (fun y hy => (if_neg (fun e => hn.1 (by rw [← e]; exact hy))).symm)
/-- The greatest number of faces of the chords c x, x of ls: no choice has more, and one has it. -/
theorem mxF_spec (n : Nat) (c : Int → Nat × Nat) (ls : List Int) (hn : ls.Nodup) :
  (∀ f : Int → Bool, lp (T (ls.flatMap fun x => ringP mateK n (c x).1 (c x).2 (f x))) (2 * (2 * n)) 0 0 0 0 ≤ mxF n (ls.map c)) ∧ (mxF n (ls.map c) = 0 ∨ ∃ f : Int → Bool, mxF n (ls.map c) = lp (T (ls.flatMap fun x => ringP mateK n (c x).1 (c x).2 (f x))) (2 * (2 * n)) 0 0 0 0) := by
 have e : mxF n (ls.map c) = best (2 * n) ((ls.map fun x => rc mateK n (c x)).reverse) 0 0 := by
  unfold mxF
  rw [layK_eq, List.append_nil, List.map_map]
  rfl
 rw [e]
 obtain ⟨_, a2, a3⟩ := best_spec (2 * n) ((ls.map fun x => rc mateK n (c x)).reverse) 0 0
 refine ⟨fun f => ?_, ?_⟩
 ·have := a2 ((ls.map f).reverse) (by simp)
  rw [csum_ls, Nat.zero_add] at this
  exact this
 ·rcases a3 with a3 | ⟨bs, h1, h2⟩
  ·exact .inl a3
  ·obtain ⟨f, hf⟩ := by_letters ls hn bs.reverse (by simpa using h1)
   refine .inr ⟨f, ?_⟩
   rw [h2, Nat.zero_add, ← csum_ls, ← hf, List.reverse_reverse]
theorem vertsK_spec (l : Nat) (c : Int → Nat × Nat) (ls : List Int) (h : vertsK l (ls.map c) = true) (f : Int → Bool) : lp (T (ls.flatMap fun x => ringP (fun d => d) (2 * l) (c x).1 (c x).2 (f x))) (2 * (4 * l)) 0 0 0 0 = l := by
 unfold vertsK at h
 rw [layK_eq, List.append_nil, List.map_map] at h
 have := each_spec (4 * l) l _ 0 h ((ls.map f).reverse) (by simp)
 rw [Nat.zero_add] at this
 rw [← csum_ls]
 exact this

/-- c tells both places of each letter. -/
def P2 (w : List Int) (c : Int → Nat × Nat) : Prop := ∀ x ∈ w, (c x).1 < (c x).2 ∧ (c x).2 < w.length ∧ ∀ i : Nat, (h : i < w.length) → (w[i] = x ↔ i = (c x).1 ∨ i = (c x).2)
def unK (b j : Nat) : Nat := if j ≤ b then j - 1 else j - 2
theorem shK_eq (b i : Nat) : shK b i = if i < b then i + 1 else i + 2 := by
 unfold shK
 by_cases h : i < b
 ·rw [if_pos h, show Nat.ble (Nat.succ i) b = true from Nat.ble_eq_true_of_le h]
  rfl
 ·rw [if_neg h, show Nat.ble (Nat.succ i) b = false from Bool.eq_false_iff.2 (fun e => h (Nat.le_of_ble_eq_true e))]
  rfl
theorem sh_un {b j : Nat} (h0 : j ≠ 0) (h1 : j ≠ b + 1) : shK b (unK b j) = j := by
 rw [shK_eq]
 unfold unK
 split <;> split <;> omega
theorem erase_at (x : Int) (r : List Int) (b : Nat) (hb : b < r.length) {i : Nat} (h : i < (r.eraseIdx b).length) (h2 : shK b i < (x :: r).length) : (r.eraseIdx b)[i] = (x :: r)[shK b i] := by
 rw [List.getElem_eraseIdx]
 by_cases hi : i < b
 ·have e : shK b i = i + 1 := by rw [shK_eq, if_pos hi]
  rw [dif_pos hi]
  have : (x :: r)[shK b i] = (x :: r)[i + 1]'(by rw [← e]; exact h2) := by congr 1
  rw [this, List.getElem_cons_succ]
 ·have e : shK b i = i + 1 + 1 := by rw [shK_eq, if_neg hi]
  rw [dif_neg hi]
  have : (x :: r)[shK b i] = (x :: r)[i + 1 + 1]'(by rw [← e]; exact h2) := by congr 1
  rw [this, List.getElem_cons_succ]
/-- Each word is met, letter by letter: the first letter goes last. -/
theorem met_of : ∀ (n : Nat) (w : List Int) (c : Int → Nat × Nat), w.length = 2 * n → P2 w c → ∃ ls : List Int, ls.Nodup ∧ (∀ x, x ∈ ls ↔ x ∈ w) ∧ Met 0 [] n (ls.map c)
 | 0, w, c, hl, _ => by
  have : w = [] := List.length_eq_zero_iff.1 (by omega)
  subst this
  exact ⟨[], List.nodup_nil, fun _ => Iff.rfl, Met.base⟩
 | n + 1, w, c, hl, hp => by
  cases w with
  | nil => simp at hl
  | cons x r =>
   have hr : r.length = 2 * n + 1 := by rw [List.length_cons] at hl; omega
   obtain ⟨h1, h2, h3⟩ := hp x (by simp)
   have hx0 : 0 = (c x).1 ∨ 0 = (c x).2 := (h3 0 (by simp)).1 rfl
   have c1 : (c x).1 = 0 := by omega
   obtain ⟨b, hb⟩ : ∃ b, (c x).2 = b + 1 := ⟨(c x).2 - 1, by omega⟩
   have hbl : b < r.length := by rw [hb] at h2; simpa using h2
   have hel : (r.eraseIdx b).length = 2 * n := by rw [List.length_eraseIdx_of_lt hbl]; omega
   have hat : ∀ i, (h : i < (r.eraseIdx b).length) → ∃ h2 : shK b i < (x :: r).length, (r.eraseIdx b)[i] = (x :: r)[shK b i] := by
    intro i h
    have h2 : shK b i < (x :: r).length := by
     rw [shK_eq, List.length_cons]
     split <;> omega
    exact ⟨h2, erase_at x r b hbl h h2⟩
   have hne : ∀ i, shK b i ≠ 0 ∧ shK b i ≠ b + 1 := by
    intro i
    rw [shK_eq]
    split <;> omega
   -- letters of the rest
   have hmem : ∀ y, y ∈ r.eraseIdx b → y ≠ x ∧ y ∈ (x :: r) := by
    intro y hy
    obtain ⟨i, hi, rfl⟩ := List.getElem_of_mem hy
    obtain ⟨h4, e⟩ := hat i hi
    rw [e]
    refine ⟨fun e2 => ?_, List.getElem_mem h4⟩
    have := (h3 _ h4).1 e2
    have := hne i
    omega
   have hother : ∀ y, y ∈ (x :: r) → y ≠ x → ((c y).1 ≠ 0 ∧ (c y).1 ≠ b + 1) ∧ ((c y).2 ≠ 0 ∧ (c y).2 ≠ b + 1) := by
    intro y hy hyx
    obtain ⟨a1, a2, a3⟩ := hp y hy
    have q1 := (a3 (c y).1 (by omega)).2 (.inl rfl)
    have q2 := (a3 (c y).2 a2).2 (.inr rfl)
    have n1 : ∀ j, (h : j < (x :: r).length) → (x :: r)[j] = y → j ≠ 0 ∧ j ≠ b + 1 := by
     intro j hj e
     constructor
     ·intro e2
      exact hyx (by rw [← e]; exact (h3 j hj).2 (by omega))
     ·intro e2
      exact hyx (by rw [← e]; exact (h3 j hj).2 (by omega))
    exact ⟨n1 _ (by omega) q1, n1 _ a2 q2⟩
   have hlt : ∀ j, j ≠ 0 → j ≠ b + 1 → j < (x :: r).length → unK b j < (r.eraseIdx b).length := by
    intro j j0 j1 j2
    rw [hel]
    rw [List.length_cons] at j2
    unfold unK
    split <;> omega
   have hp' : P2 (r.eraseIdx b) (fun y => (unK b (c y).1, unK b (c y).2)) := by
    intro y hy
    obtain ⟨hyx, hyw⟩ := hmem y hy
    obtain ⟨⟨o1, o2⟩, o3, o4⟩ := hother y hyw hyx
    obtain ⟨a1, a2, a3⟩ := hp y hyw
    refine ⟨?_, hlt _ o3 o4 a2, fun i hi => ?_⟩
    ·show unK b (c y).1 < unK b (c y).2
     unfold unK
     split <;> split <;> omega
    ·obtain ⟨h4, e⟩ := hat i hi
     rw [e, a3 _ h4]
     have s1 := sh_un o1 o2
     have s2 := sh_un o3 o4
     have inj : ∀ i j, shK b i = shK b j → i = j := by
      intro i j h
      rw [shK_eq, shK_eq] at h
      split at h <;> split at h <;> omega
     constructor
     ·rintro (h | h)
      ·exact .inl (inj _ _ (by rw [h, s1]))
      ·exact .inr (inj _ _ (by rw [h, s2]))
     ·rintro (h | h)
      ·exact .inl (by rw [h]; exact s1)
      ·exact .inr (by rw [h]; exact s2)
   obtain ⟨ls, hn, hls, hm⟩ := met_of n (r.eraseIdx b) _ hel hp'
   refine ⟨ls ++ [x], ?_, fun y => ?_, ?_⟩
   ·rw [List.nodup_append]
    exact ⟨hn, by simp, fun y hy z hz e => by
     rw [List.mem_singleton.1 hz] at e
     exact (hmem y ((hls y).1 hy)).1 e⟩
   ·rw [List.mem_append, List.mem_singleton, hls]
    constructor
    ·rintro (h | rfl)
     ·exact (hmem y h).2
     ·simp
    ·intro h
     by_cases e : y = x
     ·exact .inr e
     ·refine .inl ?_
      obtain ⟨⟨o1, o2⟩, _, _⟩ := hother y h e
      obtain ⟨a1, a2, a3⟩ := hp y h
      have hu := hlt _ o1 o2 (by omega)
      obtain ⟨h4, e2⟩ := hat _ hu
      have e3 : (x :: r)[shK b (unK b (c y).1)] = y := (a3 _ h4).2 (.inl (sh_un o1 o2))
      rw [← e3, ← e2]
      exact List.getElem_mem hu
   ·have e : (ls ++ [x]).map c = insL b (ls.map fun y => (unK b (c y).1, unK b (c y).2)) := by
     unfold insL
     rw [List.map_append, List.map_map]
     congr 1
     ·refine List.map_congr_left (fun y hy => ?_)
      obtain ⟨hyx, hyw⟩ := hmem y ((hls y).1 hy)
      obtain ⟨⟨o1, o2⟩, o3, o4⟩ := hother y hyw hyx
      show c y = (shK b (unK b (c y).1), shK b (unK b (c y).2))
      rw [sh_un o1 o2, sh_un o3 o4]
     ·show [c x] = [(0, b + 1)]
      rw [← c1, ← hb]
    rw [e]
    exact Met.step b hm (by omega)
end Go.Proofs.Ytkmjcdlhlhefdaa.L

namespace Go.Proofs.Ytkmjcdlhlhefdaa.L
open Go Go.RowKit Go.Proofs.Ytkmjcdlhlhefdaa.P Go.Proofs.Ytkmjcdlhlhefdaa.Help Go.Proofs.YtkmjcdlhlhefdaaW.PrintWords
set_option linter.unusedVariables false
set_option linter.unusedSimpArgs false
/-- The places that were met, as bits. -/
def Bt (seen : List Bool) (bits : Nat) : Prop := ∀ j, j < seen.length → bits / 2 ^ j % 2 = if seen.getD j false = true then 1 else 0
theorem bitK (x j : Nat) : x / 2 ^ j % 2 = if x.testBit j then 1 else 0 := by
 rw [Nat.testBit_eq_decide_div_mod_eq]
 have : x / 2 ^ j % 2 < 2 := Nat.mod_lt _ (by decide)
 by_cases h : x / 2 ^ j % 2 = 1
 ·rw [h]
  rfl
 ·rw [decide_eq_false h]
  show _ = 0
  omega
theorem bitor (x c j : Nat) : (x ||| 2 ^ c) / 2 ^ j % 2 = if j = c then 1 else x / 2 ^ j % 2 := by
 rw [bitK, bitK, Nat.testBit_or, Nat.testBit_two_pow]
 by_cases h : j = c
 ·subst h
  simp
 ·rw [if_neg h, decide_eq_false (fun e => h e.symm), Bool.or_false]
theorem Bt.set_ {seen : List Bool} {bits c : Nat} (h : Bt seen bits) (hc : c < seen.length) : Bt (seen.set c true) (bits ||| 2 ^ c) := by
 intro j hj
 rw [List.length_set] at hj
 rw [bitor]
 by_cases e : j = c
 ·subst e
  rw [if_pos rfl, List.getD_eq_getElem?_getD, List.getElem?_set_self hc]
  rfl
 ·rw [if_neg e, h j hj, List.getD_eq_getElem?_getD, List.getD_eq_getElem?_getD, List.getElem?_set_ne (fun x => e x.symm)]
theorem nos_all : ∀ (l : List Bool), (∀ j, j < l.length → l.getD j false = true) → nos l = 0
 | [], _ => rfl
 | b :: t, h => by
  have h0 : b = true := h 0 (by simp)
  have ht := nos_all t (fun j hj => h (j + 1) (by simpa using hj))
  subst h0
  simp [nos, ht]
theorem set_true {seen : List Bool} {c j : Nat} (h : seen.getD j false = true) : (seen.set c true).getD j false = true := by
 rw [List.getD_eq_getElem?_getD] at h ⊢
 rw [List.getElem?_set]
 by_cases e : c = j
 ·subst e
  rw [if_pos rfl]
  split
  ·rfl
  ·rename_i hl
   rw [List.getElem?_eq_none (by omega)] at h
   cases h
 ·rw [if_neg e]
  exact h
theorem cycK {m : List Int} (h2 : m.length ≤ 24) (hb : ∀ d, d < m.length → 0 ≤ m.getD d 0 ∧ m.getD d 0 < (m.length : Int)) {P : Nat} (hP : ∀ e, e < m.length → P / 32 ^ e % 32 = (m.getD e 0).toNat) : ∀ b : Nat,
  (∀ (out : List (List Int)) (seen : List Bool) (d bits : Nat), d ≤ m.length → seen.length = m.length → 2 * (m.length - d) + nos seen ≤ b → out.length ≤ d → Bt seen bits → (∀ j, j < d → seen.getD j false = true) → ∃ C : List (List Int), C.length = lp P (nos seen + (m.length - d)) d d bits out.length ∧ ∀ k, b < k → spec_l6Cycles.l0 k m out seen (d : Int) = some C) ∧
  (∀ (out : List (List Int)) (seen : List Bool) (d : Nat) (own : List Int) (cur bits : Nat), d < m.length → cur < m.length → seen.length = m.length → 2 * (m.length - d) - 1 + nos seen ≤ b → out.length ≤ d → own.length + nos seen ≤ 100 → Bt seen bits → (∀ j, j < d → seen.getD j false = true) → (own = [] → cur = d ∧ seen.getD d false = false) → (own ≠ [] → seen.getD d false = true) → ∃ C : List (List Int), C.length = lp P (nos seen + (m.length - d)) d cur bits (out.length + if own = [] then 0 else 1) ∧ ∀ k, b < k → spec_l6Cycles.l1 k m out seen (d : Int) own (cur : Int) = some C)
 | 0 => by
  refine ⟨?_, ?_⟩
  ·intro out seen d bits hd hs hm ho hB hA
   have hn : nos seen = 0 := by omega
   refine ⟨out, by rw [hn, show 0 + (m.length - d) = 0 by omega, lp_zero], fun k hk => ?_⟩
   obtain ⟨k, rfl⟩ : ∃ q, k = q + 1 := ⟨k - 1, by omega⟩
   simp only [spec_l6Cycles.l0]
   rw [if_neg (by omega)]
  ·intro out seen d own cur bits hd hc hs hm
   omega
 | b + 1 => by
  obtain ⟨ih0, ih1⟩ := cycK h2 hb hP b
  refine ⟨?_, ?_⟩
  ·intro out seen d bits hd hs hm ho hB hA
   by_cases hlt : d < m.length
   ·by_cases s : seen.getD d false = true
    ·have hA' : ∀ j, j < d + 1 → seen.getD j false = true := fun j hj => by
      rcases Nat.lt_succ_iff_lt_or_eq.1 hj with hj | rfl
      ·exact hA j hj
      ·exact s
     obtain ⟨C, hC, hk0⟩ := ih0 out seen (d + 1) bits (by omega) hs (by omega) (by omega) hB hA'
     refine ⟨C, ?_, fun k hk => ?_⟩
     ·rw [hC, show nos seen + (m.length - d) = nos seen + (m.length - (d + 1)) + 1 by omega, lp_succ, if_pos (by rw [hB d (by omega), if_pos s])]
     ·obtain ⟨k, rfl⟩ : ∃ q, k = q + 1 := ⟨k - 1, by omega⟩
      simp only [spec_l6Cycles.l0]
      rw [if_pos (by omega), if_pos (by omega), if_pos (by omega), rdb, if_pos s, w_id (by omega) (by omega), show ((d : Int) + 1) = ((d + 1 : Nat) : Int) by omega]
      exact hk0 k (by omega)
    ·have s' : seen.getD d false = false := by simpa using s
     obtain ⟨C, hC, hk0⟩ := ih1 out seen d [] d bits hlt hlt hs (by omega) ho (by have := nos_le seen; simp; omega) hB hA (fun _ => ⟨rfl, s'⟩) (fun h => absurd rfl h)
     refine ⟨C, ?_, fun k hk => ?_⟩
     ·rw [hC, if_pos rfl, Nat.add_zero]
     ·obtain ⟨k, rfl⟩ : ∃ q, k = q + 1 := ⟨k - 1, by omega⟩
      simp only [spec_l6Cycles.l0]
      rw [if_pos (by omega), if_pos (by omega), if_pos (by omega), rdb, if_neg s]
      exact hk0 k (by omega)
   ·have hn : nos seen = 0 := nos_all seen (fun j hj => hA j (by omega))
    refine ⟨out, by rw [hn, show 0 + (m.length - d) = 0 by omega, lp_zero], fun k hk => ?_⟩
    obtain ⟨k, rfl⟩ : ∃ q, k = q + 1 := ⟨k - 1, by omega⟩
    simp only [spec_l6Cycles.l0]
    rw [if_neg (by omega)]
  ·intro out seen d own cur bits hd hc hs hm ho hw hB hA h0 h1
   by_cases s : seen.getD cur false = true
   ·have hown : own ≠ [] := fun e => by
     obtain ⟨e1, e2⟩ := h0 e
     rw [e1, e2] at s
     cases s
    have hA' : ∀ j, j < d + 1 → seen.getD j false = true := fun j hj => by
     rcases Nat.lt_succ_iff_lt_or_eq.1 hj with hj | rfl
     ·exact hA j hj
     ·exact h1 hown
    obtain ⟨C, hC, hk0⟩ := ih0 (out ++ [own]) seen (d + 1) bits (by omega) hs (by omega) (by rw [List.length_append]; simp; omega) hB hA'
    refine ⟨C, ?_, fun k hk => ?_⟩
    ·rw [hC, if_neg hown, show nos seen + (m.length - d) = nos seen + (m.length - (d + 1)) + 1 by omega, lp_succ, if_pos (by rw [hB cur (by omega), if_pos s]), List.length_append]
     rfl
    ·obtain ⟨k, rfl⟩ : ∃ q, k = q + 1 := ⟨k - 1, by omega⟩
     simp only [spec_l6Cycles.l1]
     rw [if_pos (by omega), if_pos (by omega), rdb, if_pos s, if_pos (by omega), w_id (by omega) (by omega), show ((d : Int) + 1) = ((d + 1 : Nat) : Int) by omega]
     exact hk0 k (by omega)
   ·have s' : seen.getD cur false = false := by simpa using s
    have hn := nos_set seen cur (by omega) s'
    have hbd := hb cur hc
    have hself : (seen.set cur true).getD cur false = true := by
     rw [List.getD_eq_getElem?_getD, List.getElem?_set_self (by omega)]
     rfl
    have hd1 : (seen.set cur true).getD d false = true := by
     by_cases e : own = []
     ·rw [← (h0 e).1]
      exact hself
     ·exact set_true (h1 e)
    obtain ⟨C, hC, hk0⟩ := ih1 out (seen.set cur true) d (own ++ [(cur : Int)]) (m.getD cur 0).toNat (bits ||| 2 ^ cur) hd (by omega) (by rw [List.length_set]; exact hs) (by omega) ho (by rw [List.length_append]; simp; omega) (hB.set_ (by omega)) (fun j hj => set_true (hA j hj)) (fun e => by simp at e) (fun _ => hd1)
    refine ⟨C, ?_, fun k hk => ?_⟩
    ·rw [hC, if_neg (by simp), show nos seen + (m.length - d) = nos (seen.set cur true) + (m.length - d) + 1 by omega, lp_succ, if_neg (by rw [hB cur (by omega), if_neg s]; decide), hP cur hc]
     congr 1
     by_cases e : own = []
     ·rw [if_pos e, if_pos (h0 e).1]
     ·rw [if_neg e, if_neg (fun e2 => by rw [e2, h1 e] at s'; cases s')]
    ·obtain ⟨k, rfl⟩ : ∃ q, k = q + 1 := ⟨k - 1, by omega⟩
     have e := hk0 k (by omega)
     rw [Int.toNat_of_nonneg hbd.1] at e
     simp only [spec_l6Cycles.l1]
     rw [if_pos (by omega), if_pos (by omega), rdb, if_neg s, if_pos (by omega), if_pos (by omega), rdg, Int.toNat_natCast]
     exact e
/-- The cycles, in both, and how many there are. -/
theorem cyclesK {m : List Int} (h2 : m.length ≤ 24) (hb : ∀ d, d < m.length → 0 ≤ m.getD d 0 ∧ m.getD d 0 < (m.length : Int)) {P : Nat} (hP : ∀ e, e < m.length → P / 32 ^ e % 32 = (m.getD e 0).toNat) : ∃ C : List (List Int), C.length = lp P (2 * m.length) 0 0 0 0 ∧ ∀ k, 100 < k → spec_l6Cycles.f k m = some C ∧ impl_cycles.f k m = some C := by
 obtain ⟨C, _, hk⟩ := cycles_f h2 hb
 have hn : nos (List.replicate m.length false) = m.length := by
  have : ∀ n, nos (List.replicate n false) = n := by
   intro n
   induction n with
   | zero => rfl
   | succ n ih =>
    rw [List.replicate_succ]
    simp [nos, ih]
    omega
  exact this _
 obtain ⟨C2, h3, h4⟩ := (cycK h2 hb hP 100).1 [] (List.replicate m.length false) 0 0 (by omega) (by simp) (by omega) (by simp) (fun j hj => by
  rw [List.length_replicate] at hj
  rw [Nat.zero_div, List.getD_eq_getElem?_getD, List.getElem?_replicate_of_lt hj]
  rfl) (fun j hj => absurd hj (Nat.not_lt_zero _))
 have e : C = C2 := by
  have h5 := (hk 101 (by omega)).1
  unfold spec_l6Cycles.f at h5
  rw [if_pos (by omega), if_pos (by omega), Int.toNat_natCast] at h5
  exact (Option.some.inj ((h4 101 (by omega)).symm.trans h5)).symm
 rw [hn] at h3
 refine ⟨C, ?_, hk⟩
 rw [e, h3]
 show lp P (m.length + (m.length - 0)) 0 0 0 0 = _
 rw [show m.length + (m.length - 0) = 2 * m.length by omega]
end Go.Proofs.Ytkmjcdlhlhefdaa.L

namespace Go.Proofs.Ytkmjcdlhlhefdaa.L
set_option maxRecDepth 100000
theorem faces1 : walkK facesK 1 0 [] = true := by decide +kernel
theorem faces2 : walkK facesK 2 0 [] = true := by decide +kernel
theorem faces3 : walkK facesK 3 0 [] = true := by decide +kernel
theorem faces4 : walkK facesK 4 0 [] = true := by decide +kernel
theorem faces_0_0 : walkK facesK 2 3 (insL 0 (insL 0 (insL 0 []))) = true := by decide +kernel
theorem faces_0_1 : walkK facesK 2 3 (insL 1 (insL 0 (insL 0 []))) = true := by decide +kernel
theorem faces_0_2 : walkK facesK 2 3 (insL 2 (insL 0 (insL 0 []))) = true := by decide +kernel
theorem faces_0_3 : walkK facesK 2 3 (insL 3 (insL 0 (insL 0 []))) = true := by decide +kernel
theorem faces_0_4 : walkK facesK 2 3 (insL 4 (insL 0 (insL 0 []))) = true := by decide +kernel
theorem faces_1_0 : walkK facesK 2 3 (insL 0 (insL 1 (insL 0 []))) = true := by decide +kernel
theorem faces_1_1 : walkK facesK 2 3 (insL 1 (insL 1 (insL 0 []))) = true := by decide +kernel
theorem faces_1_2 : walkK facesK 2 3 (insL 2 (insL 1 (insL 0 []))) = true := by decide +kernel
theorem faces_1_3 : walkK facesK 2 3 (insL 3 (insL 1 (insL 0 []))) = true := by decide +kernel
theorem faces_1_4 : walkK facesK 2 3 (insL 4 (insL 1 (insL 0 []))) = true := by decide +kernel
theorem faces_2_0 : walkK facesK 2 3 (insL 0 (insL 2 (insL 0 []))) = true := by decide +kernel
theorem faces_2_1 : walkK facesK 2 3 (insL 1 (insL 2 (insL 0 []))) = true := by decide +kernel
theorem faces_2_2 : walkK facesK 2 3 (insL 2 (insL 2 (insL 0 []))) = true := by decide +kernel
theorem faces_2_3 : walkK facesK 2 3 (insL 3 (insL 2 (insL 0 []))) = true := by decide +kernel
theorem faces_2_4 : walkK facesK 2 3 (insL 4 (insL 2 (insL 0 []))) = true := by decide +kernel
theorem faces5 : walkK facesK 5 0 [] = true := by
 refine walkK_add facesK 2 3 0 [] ?_
 rw [walkK_succ]
 intro a ha
 obtain rfl : a = 0 := by omega
 rw [walkK_succ]
 intro b hb
 rw [walkK_succ]
 intro c hc
 have hb2 : b = 0 ∨ b = 1 ∨ b = 2 := by omega
 have hc2 : c = 0 ∨ c = 1 ∨ c = 2 ∨ c = 3 ∨ c = 4 := by omega
 rcases hb2 with rfl | rfl | rfl <;> rcases hc2 with rfl | rfl | rfl | rfl | rfl
 ·exact faces_0_0
 ·exact faces_0_1
 ·exact faces_0_2
 ·exact faces_0_3
 ·exact faces_0_4
 ·exact faces_1_0
 ·exact faces_1_1
 ·exact faces_1_2
 ·exact faces_1_3
 ·exact faces_1_4
 ·exact faces_2_0
 ·exact faces_2_1
 ·exact faces_2_2
 ·exact faces_2_3
 ·exact faces_2_4
theorem verts1 : walkK vertsK 1 0 [] = true := by decide +kernel
theorem verts2 : walkK vertsK 2 0 [] = true := by decide +kernel
theorem verts3 : walkK vertsK 3 0 [] = true := by decide +kernel
theorem verts4 : walkK vertsK 4 0 [] = true := by decide +kernel
theorem verts_0_0 : walkK vertsK 2 3 (insL 0 (insL 0 (insL 0 []))) = true := by decide +kernel
theorem verts_0_1 : walkK vertsK 2 3 (insL 1 (insL 0 (insL 0 []))) = true := by decide +kernel
theorem verts_0_2 : walkK vertsK 2 3 (insL 2 (insL 0 (insL 0 []))) = true := by decide +kernel
theorem verts_0_3 : walkK vertsK 2 3 (insL 3 (insL 0 (insL 0 []))) = true := by decide +kernel
theorem verts_0_4 : walkK vertsK 2 3 (insL 4 (insL 0 (insL 0 []))) = true := by decide +kernel
theorem verts_1_0 : walkK vertsK 2 3 (insL 0 (insL 1 (insL 0 []))) = true := by decide +kernel
theorem verts_1_1 : walkK vertsK 2 3 (insL 1 (insL 1 (insL 0 []))) = true := by decide +kernel
theorem verts_1_2 : walkK vertsK 2 3 (insL 2 (insL 1 (insL 0 []))) = true := by decide +kernel
theorem verts_1_3 : walkK vertsK 2 3 (insL 3 (insL 1 (insL 0 []))) = true := by decide +kernel
theorem verts_1_4 : walkK vertsK 2 3 (insL 4 (insL 1 (insL 0 []))) = true := by decide +kernel
theorem verts_2_0 : walkK vertsK 2 3 (insL 0 (insL 2 (insL 0 []))) = true := by decide +kernel
theorem verts_2_1 : walkK vertsK 2 3 (insL 1 (insL 2 (insL 0 []))) = true := by decide +kernel
theorem verts_2_2 : walkK vertsK 2 3 (insL 2 (insL 2 (insL 0 []))) = true := by decide +kernel
theorem verts_2_3 : walkK vertsK 2 3 (insL 3 (insL 2 (insL 0 []))) = true := by decide +kernel
theorem verts_2_4 : walkK vertsK 2 3 (insL 4 (insL 2 (insL 0 []))) = true := by decide +kernel
theorem verts5 : walkK vertsK 5 0 [] = true := by
 refine walkK_add vertsK 2 3 0 [] ?_
 rw [walkK_succ]
 intro a ha
 obtain rfl : a = 0 := by omega
 rw [walkK_succ]
 intro b hb
 rw [walkK_succ]
 intro c hc
 have hb2 : b = 0 ∨ b = 1 ∨ b = 2 := by omega
 have hc2 : c = 0 ∨ c = 1 ∨ c = 2 ∨ c = 3 ∨ c = 4 := by omega
 rcases hb2 with rfl | rfl | rfl <;> rcases hc2 with rfl | rfl | rfl | rfl | rfl
 ·exact verts_0_0
 ·exact verts_0_1
 ·exact verts_0_2
 ·exact verts_0_3
 ·exact verts_0_4
 ·exact verts_1_0
 ·exact verts_1_1
 ·exact verts_1_2
 ·exact verts_1_3
 ·exact verts_1_4
 ·exact verts_2_0
 ·exact verts_2_1
 ·exact verts_2_2
 ·exact verts_2_3
 ·exact verts_2_4
/-- Whatever word of at most five letters is met: the checks hold. -/
theorem metK {n : Nat} {L : List (Nat × Nat)} (h : Met 0 [] n L) (h1 : 1 ≤ n) (h5 : n ≤ 5) : facesK n L = true ∧ vertsK n L = true := by
 have hf : walkK facesK (n - 0 + 0) 0 [] = true := by
  rcases (show n = 1 ∨ n = 2 ∨ n = 3 ∨ n = 4 ∨ n = 5 by omega) with rfl | rfl | rfl | rfl | rfl
  ·exact faces1
  ·exact faces2
  ·exact faces3
  ·exact faces4
  ·exact faces5
 have hv : walkK vertsK (n - 0 + 0) 0 [] = true := by
  rcases (show n = 1 ∨ n = 2 ∨ n = 3 ∨ n = 4 ∨ n = 5 by omega) with rfl | rfl | rfl | rfl | rfl
  ·exact verts1
  ·exact verts2
  ·exact verts3
  ·exact verts4
  ·exact verts5
 exact ⟨met_walk h 0 hf, met_walk h 0 hv⟩
end Go.Proofs.Ytkmjcdlhlhefdaa.L

namespace Go.Proofs.Ytkmjcdlhlhefdaa.L
open Go.RowKit Go.Proofs.Ytkmjcdlhlhefdaa.P Go.Proofs.Ytkmjcdlhlhefdaa.Help Go.Proofs.YtkmjcdlhlhefdaaW.PrintWords Go.Proofs.YtkmjcdlhlhefdaaW.PrintLast Go.Proofs.YtkmjcdlhlhefdaaW.PrintMore
set_option linter.unusedVariables false
set_option linter.unusedSimpArgs false

/-- The genus of a set's map. -/
def gen (w : List Int) (s : Int) : Int := (impl_GenusOf.f 251 (mapR w s)).getD 0
theorem gen_f {w : List Int} (h : cw w = true) (s : Int) : gen w s ≤ w.length ∧ ∀ k, 250 < k → spec_l6Genus.f k (mapR w s) = some (gen w s) ∧ impl_GenusOf.f k (mapR w s) = some (gen w s) := by
 obtain ⟨g, hg, hk⟩ := genus_f h s
 have e : gen w s = g := by
  unfold gen
  rw [(hk 251 (by omega)).2]
  rfl
 rw [e]
 exact ⟨hg, hk⟩
theorem impl_cg_l0 {w : List Int} (h : cw w = true) : ∀ (d k i : Nat) (a : Int), i + d = 256 → d + 300 < k → impl_CurveGenus.l0 k w a (i : Int) = some (fmin a ((List.range' i d).map fun (s : Nat) => gen w (s : Int)))
 | 0, k, i, a, hi, hk => by
  obtain ⟨k, rfl⟩ : ∃ m, k = m + 1 := ⟨k - 1, by omega⟩
  simp only [impl_CurveGenus.l0]
  rw [if_neg (by omega)]
  rfl
 | d + 1, k, i, a, hi, hk => by
  obtain ⟨k, rfl⟩ : ∃ m, k = m + 1 := ⟨k - 1, by omega⟩
  simp only [impl_CurveGenus.l0]
  rw [if_pos (by omega), impl_map h (i : Int) k (by omega), Option.bind_some, ((gen_f h (i : Int)).2 k (by omega)).2, Option.bind_some, w_id (by omega) (by omega), show ((i : Int) + 1) = ((i + 1 : Nat) : Int) by omega, impl_cg_l0 h d k (i + 1) _ (by omega) (by omega), List.range'_succ, List.map_cons]
  rfl
/-- Is a set one of the word's letters? -/
def useR (w : List Int) (s : Int) : Nat → Nat → Bool → Bool
 | 0, _, b => b
 | n + 1, i, b => useR w s n (i + 1) (b && (decide (bitOf s (i : Int) = 0) || cnt w (i : Int) == 2))
theorem spec_cg_l1 {w : List Int} (h : cw w = true) (a s : Int) : ∀ (n k i : Nat) (b : Bool), i + n = 9 → 1 ≤ i → n + 40 < k → spec_CurveGenus.l1 k w a s b (i : Int) = spec_CurveGenus.l1 (k - n) w a s (useR w s n i b) 9
 | 0, k, i, b, hi, h1, hk => by
  rw [show i = 9 by omega, Nat.sub_zero]
  rfl
 | n + 1, k, i, b, hi, h1, hk => by
  obtain ⟨k, rfl⟩ : ∃ m, k = m + 1 := ⟨k - 1, by omega⟩
  obtain ⟨hw, _⟩ := cw_true h
  have e1 : wrap64 ((i : Int) - 1) = (i : Int) - 1 := w_id (by omega) (by omega)
  have e2 : IntKind.u64.wrap ((i : Int) - 1) = (i : Int) - 1 := u64_w (by omega) (by omega)
  have e3 : wrap64 ((i : Int) + 1) = ((i + 1 : Nat) : Int) := (w_id (by omega) (by omega)).trans (by omega)
  conv => lhs; simp only [spec_CurveGenus.l1]
  rw [if_pos (by omega), e1, e2, e3, useR, show k + 1 - (n + 1) = k - n by omega]
  cases b with
  | true =>
   rw [if_pos rfl, if_pos (by omega), Bool.true_and]
   show (if bitOf s (i : Int) = 0 then _ else _) = _
   by_cases hb : bitOf s (i : Int) = 0
   ·rw [if_pos hb, decide_eq_true hb, Bool.true_or]
    exact spec_cg_l1 h a s n k (i + 1) true (by omega) (by omega) (by omega)
   ·rw [if_neg hb, decide_eq_false hb, Bool.false_or, spec_count w (by omega) (cw_small h) (i : Int) k (by omega), Option.bind_some]
    exact spec_cg_l1 h a s n k (i + 1) _ (by omega) (by omega) (by omega)
  | false =>
   rw [if_neg (by decide), Bool.false_and]
   exact spec_cg_l1 h a s n k (i + 1) false (by omega) (by omega) (by omega)
def used (w : List Int) (s : Int) : Bool := useR w s 8 1 true
theorem spec_cg_l0 {w : List Int} (h : cw w = true) : ∀ (d k i : Nat) (a : Int), i + d = 256 → 10 * d + 400 < k → spec_CurveGenus.l0 k w a (i : Int) = some (fmin a (((List.range' i d).filter fun (s : Nat) => used w (s : Int)).map fun (s : Nat) => gen w (s : Int)))
 | 0, k, i, a, hi, hk => by
  obtain ⟨k, rfl⟩ : ∃ m, k = m + 1 := ⟨k - 1, by omega⟩
  simp only [spec_CurveGenus.l0]
  rw [if_neg (by omega)]
  rfl
 | d + 1, k, i, a, hi, hk => by
  obtain ⟨hw, _⟩ := cw_true h
  obtain ⟨k, rfl⟩ : ∃ m, k = m + 10 := ⟨k - 10, by omega⟩
  have e1 := spec_cg_l1 h a (i : Int) 8 (k + 9) 1 true (by omega) (by omega) (by omega)
  rw [show k + 10 = (k + 9) + 1 from rfl]
  conv => lhs; simp only [spec_CurveGenus.l0]
  rw [if_pos (by omega)]
  refine e1.trans ?_
  rw [show k + 9 - 8 = k + 1 by omega]
  conv => lhs; simp only [spec_CurveGenus.l1]
  rw [if_neg (by decide), List.range'_succ, w_id (a := (i : Int) + 1) (by omega) (by omega), show ((i : Int) + 1) = ((i + 1 : Nat) : Int) by omega]
  by_cases hu : used w (i : Int) = true
  ·have hu' : useR w (i : Int) 8 1 true = true := hu
   rw [if_pos hu', spec_map w (i : Int) (by omega) k (by omega), Option.bind_some, ((gen_f h (i : Int)).2 k (by omega)).1, Option.bind_some]
   have em : spec_l1Min.f a (gen w (i : Int)) = some (if gen w (i : Int) < a then gen w (i : Int) else a) := by
    unfold spec_l1Min.f
    by_cases c : a < gen w (i : Int)
    ·rw [if_pos c, if_neg (by omega)]
    ·rw [if_neg c]
     by_cases c2 : gen w (i : Int) < a
     ·rw [if_pos c2]
     ·rw [if_neg c2]; congr 1; omega
   rw [em, Option.bind_some, spec_cg_l0 h d k (i + 1) _ (by omega) (by omega), List.filter_cons_of_pos (by exact hu), List.map_cons]
   rfl
  ·have hu' : ¬ useR w (i : Int) 8 1 true = true := hu
   rw [if_neg hu', spec_cg_l0 h d k (i + 1) _ (by omega) (by omega), List.filter_cons_of_neg (by exact hu)]
theorem useR_all (w : List Int) (s : Int) : ∀ n i, (∀ x : Nat, i ≤ x → x < i + n → bitOf s (x : Int) = 0 ∨ cnt w (x : Int) = 2) → useR w s n i true = true
 | 0, _, _ => rfl
 | n + 1, i, h => by
  have e : (decide (bitOf s (i : Int) = 0) || cnt w (i : Int) == 2) = true := by
   rcases h i (by omega) (by omega) with a | a
   ·rw [decide_eq_true a, Bool.true_or]
   ·rw [a]; simp
  rw [useR, e, Bool.and_true]
  exact useR_all w s n (i + 1) (fun x h1 h2 => h x (by omega) (by omega))
theorem bit_low : ∀ a : Fin 16, ∀ b : Fin 16, Go.bits .and .i64 ((16 * (a : Nat) + (b : Nat) : Nat) : Int) 1 = (((16 * (a : Nat) + (b : Nat)) % 2 : Nat) : Int) := by decide +kernel
theorem shr_nat (s x : Nat) (hx : x < 8) : shr .i64 (s : Int) (((x + 1 : Nat) : Int) - 1) = ((s / 2 ^ x : Nat) : Int) := by
 have e : (((x + 1 : Nat) : Int) - 1).toNat = x := by omega
 have e2 : min x (IntKind.bits .i64) = x := Nat.min_eq_left (show x ≤ 64 by omega)
 unfold shr
 rw [e, e2, Int.natCast_ediv, Int.natCast_pow]
 rfl
theorem bit_nat {s x : Nat} (hs : s < 256) (hx : x < 8) : bitOf (s : Int) ((x + 1 : Nat) : Int) = if s.testBit x then 1 else 0 := by
 have hd : s / 2 ^ x ≤ s := Nat.div_le_self _ _
 unfold bitOf
 rw [shr_nat s x hx, Nat.testBit_eq_decide_div_mod_eq]
 generalize s / 2 ^ x = y at hd ⊢
 have := bit_low ⟨y / 16, by omega⟩ ⟨y % 16, by omega⟩
 dsimp only at this
 rw [show 16 * (y / 16) + y % 16 = y by omega] at this
 rw [this]
 by_cases h : y % 2 = 1
 ·rw [decide_eq_true h, if_pos rfl, h]; rfl
 ·rw [decide_eq_false h, if_neg (by decide), show y % 2 = 0 by omega]; rfl
theorem mask : ∀ (n : Nat) (f : Nat → Bool), ∃ U, U < 2 ^ n ∧ ∀ x, x < n → U.testBit x = f x
 | 0, f => ⟨0, by simp, fun x h => absurd h (by omega)⟩
 | n + 1, f => by
  obtain ⟨V, hV, h⟩ := mask n (fun x => f (x + 1))
  refine ⟨2 * V + (if f 0 = true then 1 else 0), ?_, ?_⟩
  ·rw [Nat.pow_succ]
   split <;> omega
  ·intro x hx
   match x with
   | 0 =>
    rw [Nat.testBit_zero]
    cases hf : f 0 with
    | true => rw [if_pos rfl]; exact decide_eq_true (by omega)
    | false => rw [if_neg (by decide)]; exact decide_eq_false (by omega)
   | x + 1 =>
    rw [Nat.testBit_succ, show (2 * V + (if f 0 = true then 1 else 0)) / 2 = V by split <;> omega]
    exact h x (by omega)
theorem fold_bits (w : List Int) (s t : Int) : ∀ (L m : List Int), (∀ x ∈ L, bitOf s x = bitOf t x) → L.foldl (crossM w s) m = L.foldl (crossM w t) m
 | [], m, _ => by rw [List.foldl_nil, List.foldl_nil]
 | x :: L, m, h => by
  have e : crossM w s m x = crossM w t m x := by
   unfold crossM
   rw [h x List.mem_cons_self]
  rw [List.foldl_cons, List.foldl_cons, e]
  exact fold_bits w s t L _ (fun y hy => h y (List.mem_cons_of_mem _ hy))
/-- Each set has a set of the word's letters with the same map. -/
theorem restrict {w : List Int} (h : cw w = true) {s : Nat} (hs : s < 256) : ∃ t : Nat, t < 256 ∧ used w (t : Int) = true ∧ gen w (t : Int) = gen w (s : Int) := by
 obtain ⟨U, hU, hb⟩ := mask 8 (fun x => decide (((x + 1 : Nat) : Int) ∈ w))
 have ht : s &&& U < 256 := Nat.lt_of_le_of_lt Nat.and_le_left hs
 have bt : ∀ x : Nat, x < 8 → bitOf ((s &&& U : Nat) : Int) ((x + 1 : Nat) : Int) = if s.testBit x && decide (((x + 1 : Nat) : Int) ∈ w) then 1 else 0 := by
  intro x hx
  have := bit_nat ht hx
  rw [Nat.testBit_and, hb x hx] at this
  exact this
 refine ⟨s &&& U, ht, useR_all w _ 8 1 (fun x h1 h2 => ?_), ?_⟩
 ·obtain ⟨y, rfl⟩ : ∃ y, x = y + 1 := ⟨x - 1, by omega⟩
  have e := bt y (by omega)
  by_cases hm : ((y + 1 : Nat) : Int) ∈ w
  ·exact .inr (cw_two h _ hm)
  ·left
   rw [e, decide_eq_false hm, Bool.and_false]
   rfl
 ·unfold gen
  congr 2
  unfold mapR
  rw [mapF_fold h, mapF_fold h]
  apply fold_bits
  intro x hx
  rw [← letters_tail h] at hx
  have hm := letters_mem h x hx
  have hx8 := ((cw_true h).2 x hm).1
  obtain ⟨y, rfl⟩ : ∃ y : Nat, x = ((y + 1 : Nat) : Int) := ⟨(x - 1).toNat, by omega⟩
  have e1 := bt y (by omega)
  have e2 := bit_nat hs (show y < 8 by omega)
  rw [decide_eq_true hm, Bool.and_true] at e1
  exact e1.trans e2.symm
theorem cg_eq {w : List Int} (h : cw w = true) (N : Nat) (hN : N = 256) : fmin 1000 ((List.range' 0 N).map fun (s : Nat) => gen w (s : Int)) = fmin (w.length : Int) (((List.range' 0 N).filter fun (s : Nat) => used w (s : Int)).map fun (s : Nat) => gen w (s : Int)) := by
 obtain ⟨hw, _⟩ := cw_true h
 have hm : ∀ s : Nat, s ∈ List.range' 0 N ↔ s < 256 := by
  intro s
  rw [List.mem_range'_1]
  omega
 apply fmin_eq
 ·intro x
  constructor
  ·intro hx
   obtain ⟨s, hs, rfl⟩ := List.mem_map.1 hx
   obtain ⟨t, ht, hu, e⟩ := restrict h ((hm s).1 hs)
   exact List.mem_map.2 ⟨t, List.mem_filter.2 ⟨(hm t).2 ht, hu⟩, e⟩
  ·intro hx
   obtain ⟨s, hs, rfl⟩ := List.mem_map.1 hx
   exact List.mem_map.2 ⟨s, (List.mem_filter.1 hs).1, rfl⟩
 ·intro x hx
  obtain ⟨s, hs, rfl⟩ := List.mem_map.1 hx
  have := (gen_f h (s : Int)).1
  omega
 ·intro x hx
  obtain ⟨s, hs, rfl⟩ := List.mem_map.1 hx
  exact (gen_f h (s : Int)).1
 ·exact ⟨_, List.mem_map.2 ⟨0, (hm 0).2 (by omega), rfl⟩⟩
def cgR (w : List Int) : Int := if cw w = true then fmin 1000 ((List.range' 0 256).map fun (s : Nat) => gen w (s : Int)) else -1
theorem impl_cg (w : List Int) (hx : w.length ≤ 1048576) (k : Nat) (hk : 1060000 < k) : impl_CurveGenus.f k w = some (cgR w) := by
 unfold impl_CurveGenus.f cgR
 rw [impl_cw w hx k (by omega), Option.bind_some]
 by_cases h : cw w = true
 ·rw [if_pos h, if_pos h]
  exact impl_cg_l0 h 256 k 0 1000 (by omega) (by omega)
 ·rw [if_neg h, if_neg h]
theorem spec_cg (w : List Int) (hx : w.length ≤ 1048576) (k : Nat) (hk : 1060000 < k) : spec_CurveGenus.f k w = some (cgR w) := by
 unfold spec_CurveGenus.f cgR
 rw [spec_cw w hx k (by omega), Option.bind_some]
 by_cases h : cw w = true
 ·rw [if_pos h, if_pos h]
  rw [cg_eq h 256 rfl]
  exact spec_cg_l0 h 256 k 0 (w.length : Int) (by omega) (by omega)
 ·rw [if_neg h, if_neg h]
end Go.Proofs.Ytkmjcdlhlhefdaa.L

namespace Go.Proofs.Ytkmjcdlhlhefdaa.L
open Go.RowKit Go.Proofs.Ytkmjcdlhlhefdaa.P Go.Proofs.Ytkmjcdlhlhefdaa.Help Go.Proofs.YtkmjcdlhlhefdaaW.PrintWords
set_option linter.unusedVariables false
set_option linter.unusedSimpArgs false

/-- A word without a letter. -/
def without (w : List Int) (x : Int) : List Int := w.filter (fun y => decide (y ≠ x))
theorem without_eq (y : Int) (ys : List Int) (x : Int) (h : y = x) : without (y :: ys) x = without ys x := by
 unfold without
 rw [List.filter_cons, if_neg (by simpa using h)]
theorem without_ne (y : Int) (ys : List Int) (x : Int) (h : y ≠ x) : without (y :: ys) x = y :: without ys x := by
 unfold without
 rw [List.filter_cons, if_pos (by simpa using h)]
theorem spec_drop_l0 (w : List Int) (hx : w.length ≤ 1000000000) (x : Int) : ∀ (d k i : Nat) (o : List Int), i + d = w.length → d < k → o.length ≤ i → spec_l18Drop.l0 k w x o (i : Int) = some (o ++ without (w.drop i) x) := by
 intro d
 induction d with
 | zero =>
  intro k i o hi hk ho
  obtain ⟨k, rfl⟩ : ∃ m, k = m + 1 := ⟨k - 1, by omega⟩
  simp only [spec_l18Drop.l0]
  rw [if_neg (by omega), List.drop_of_length_le (by omega)]
  simp [without]
 | succ d ih =>
  intro k i o hi hk ho
  obtain ⟨k, rfl⟩ : ∃ m, k = m + 1 := ⟨k - 1, by omega⟩
  have hlt : i < w.length := by omega
  simp only [spec_l18Drop.l0]
  rw [if_pos (by omega), if_pos (by omega), rd_nat w i hlt, List.drop_eq_getElem_cons hlt, w_id (by omega) (by omega), show ((i : Int) + 1) = ((i + 1 : Nat) : Int) by omega]
  by_cases h : w[i] = x
  ·rw [if_pos h, ih k (i + 1) o (by omega) (by omega) (by omega), without_eq _ _ _ h]
  ·rw [if_neg h, if_pos (by omega), ih k (i + 1) _ (by omega) (by omega) (by simp; omega), without_ne _ _ _ h, List.append_assoc]
   rfl
theorem impl_drop_l0 (w : List Int) (hx : w.length ≤ 1000000000) (x : Int) : ∀ (d k i : Nat) (o : List Int), i + d = w.length → d < k → o.length ≤ i → impl_DropCrossing.l0 k x o w (w.length : Int) (i : Int) = some (o ++ without (w.drop i) x, true) := by
 intro d
 induction d with
 | zero =>
  intro k i o hi hk ho
  obtain ⟨k, rfl⟩ : ∃ m, k = m + 1 := ⟨k - 1, by omega⟩
  simp only [impl_DropCrossing.l0]
  rw [if_neg (by omega), List.drop_of_length_le (by omega)]
  simp [without]
 | succ d ih =>
  intro k i o hi hk ho
  obtain ⟨k, rfl⟩ : ∃ m, k = m + 1 := ⟨k - 1, by omega⟩
  have hlt : i < w.length := by omega
  simp only [impl_DropCrossing.l0]
  rw [if_pos (by omega), if_pos (by omega), if_pos (by omega), rd_nat w i hlt, List.drop_eq_getElem_cons hlt, w_id (by omega) (by omega), show ((i : Int) + 1) = ((i + 1 : Nat) : Int) by omega]
  by_cases h : w[i] = x
  ·rw [if_pos h, ih k (i + 1) o (by omega) (by omega) (by omega), without_eq _ _ _ h]
  ·rw [if_neg h, if_pos (by omega), ih k (i + 1) _ (by omega) (by omega) (by simp; omega), without_ne _ _ _ h, List.append_assoc]
   rfl
theorem spec_drop (w : List Int) (hx : w.length ≤ 1000000000) (x : Int) (k : Nat) (hk : w.length < k) : spec_l18Drop.f k w x = some (without w x) := by
 unfold spec_l18Drop.f
 exact spec_drop_l0 w hx x w.length k 0 [] (by omega) hk (by simp)
theorem without_len (w : List Int) (x : Int) : (without w x).length ≤ w.length := List.length_filter_le _ _
def dropR (w : List Int) (x : Int) : List Int × Bool := if cw w = true ∧ x ∈ w ∧ w.length ≠ 2 then (without w x, true) else ([], false)
theorem dropR_len (w : List Int) (x : Int) : (dropR w x).1.length ≤ w.length := by
 unfold dropR
 split
 ·exact without_len w x
 ·simp
theorem spec_dropC (w : List Int) (hx : w.length ≤ 1048576) (x : Int) (k : Nat) (hk : 1048577 < k) : spec_DropCrossing.f k w x = some (dropR w x) := by
 unfold spec_DropCrossing.f dropR
 rw [spec_cw w hx k hk, Option.bind_some]
 by_cases h : cw w = true
 ·obtain ⟨h1, h2⟩ := cw_true h
  have hm := cw_mem h x
  rw [if_pos h, spec_count w (by omega) (cw_small h) x k (by omega), Option.bind_some, spec_drop w (by omega) x k (by omega), Option.bind_some]
  by_cases h3 : x < 1
  ·rw [if_pos h3, if_neg (fun h' => by have := hm.1 h'.2.1; omega)]
  ·rw [if_neg h3]
   by_cases h4 : cnt w x = 2
   ·rw [if_pos h4]
    by_cases h5 : (w.length : Int) = 2
    ·rw [if_pos h5, if_neg (fun h' => h'.2.2 (by omega))]
    ·rw [if_neg h5, if_pos ⟨h, hm.2 ⟨by omega, h4⟩, fun h' => h5 (by omega)⟩]
   ·rw [if_neg h4, if_neg (fun h' => h4 (hm.1 h'.2.1).2)]
 ·rw [if_neg h, if_neg (fun h' => h h'.1)]
theorem impl_dropC (w : List Int) (hx : w.length ≤ 1048576) (x : Int) (k : Nat) (hk : 1048577 < k) : impl_DropCrossing.f k w x = some (dropR w x) := by
 obtain ⟨k, rfl⟩ : ∃ m, k = m + 1 := ⟨k - 1, by omega⟩
 unfold impl_DropCrossing.f dropR
 rw [impl_cw w hx (k + 1) hk, Option.bind_some]
 simp only [impl_DropCrossing.j0, if_true]
 by_cases h : cw w = true
 ·obtain ⟨h1, h2⟩ := cw_true h
  have hm := idx_mem w x
  rw [if_pos h, indexOf_eq w (by omega) x _ (by omega), Option.bind_some]
  by_cases h3 : idx w x < 0
  ·rw [if_pos h3, if_neg (fun h' => by have := hm.2 h'.2.1; omega)]
  ·rw [if_neg h3]
   by_cases h5 : (w.length : Int) = 2
   ·rw [if_pos (by simpa using h5), if_neg (fun h' => h'.2.2 (by omega))]
   ·rw [if_neg (by simpa using h5), if_pos ⟨h, hm.1 (by omega), fun h' => h5 (by omega)⟩]
    exact impl_drop_l0 w (by omega) x w.length k 0 [] (by omega) (by omega) (by simp)
 ·rw [if_neg h, if_neg (fun h' => h h'.1)]
end Go.Proofs.Ytkmjcdlhlhefdaa.L

namespace Go.Proofs.Ytkmjcdlhlhefdaa.L
open Go.RowKit Go.Proofs.Ytkmjcdlhlhefdaa.P Go.Proofs.Ytkmjcdlhlhefdaa.Help Go.Proofs.YtkmjcdlhlhefdaaW.PrintWords
set_option linter.unusedVariables false
set_option linter.unusedSimpArgs false

theorem cnt_without (w : List Int) (hw : ∀ y ∈ w, 1 ≤ y) (x y : Int) (hx : 1 ≤ x) : cnt (without w x) y = if x = y then 0 else cnt w y := by
 induction w with
 | nil => simp [without, cnt]
 | cons z zs ih =>
  have ih := ih (fun y hy => hw y (List.mem_cons_of_mem _ hy))
  have hz := hw z List.mem_cons_self
  unfold without at ih ⊢
  rw [List.filter_cons]
  by_cases h : z = x
  ·rw [if_neg (by simpa using h), ih, cnt]
   by_cases h2 : x = y
   ·rw [if_pos h2, if_pos h2]
   ·rw [if_neg h2, if_neg h2, if_neg (by omega), Int.zero_add]
  ·rw [if_pos (by simpa using h), cnt, ih, cnt]
   by_cases h2 : x = y
   ·rw [if_pos h2, if_pos h2, if_neg (by omega)]; rfl
   ·rw [if_neg h2, if_neg h2]
theorem without_size (w : List Int) (hw : ∀ y ∈ w, 1 ≤ y) (x : Int) (hx : 1 ≤ x) : ((without w x).length : Int) = w.length - cnt w x := by
 induction w with
 | nil => simp [without, cnt]
 | cons z zs ih =>
  have ih := ih (fun y hy => hw y (List.mem_cons_of_mem _ hy))
  have hz := hw z List.mem_cons_self
  unfold without at ih ⊢
  rw [List.filter_cons]
  by_cases h : z = x
  ·rw [if_neg (by simpa using h), cnt, if_pos (by omega), List.length_cons]
   omega
  ·rw [if_pos (by simpa using h), cnt, if_neg (by omega), List.length_cons, List.length_cons]
   omega
/-- A crossing word without a letter is a crossing word, if letters are left. -/
theorem cw_without {w : List Int} (h : cw w = true) {x : Int} (hx : x ∈ w) (hl : 2 < w.length) : cw (without w x) = true ∧ (without w x).length + 2 = w.length := by
 obtain ⟨h1, h2⟩ := cw_true h
 have hp := cw_pos h
 have hs := without_size w hp x (hp x hx)
 rw [cw_two h x hx] at hs
 refine ⟨?_, by omega⟩
 have hev : w.length ≠ 3 := by
  intro h3
  match w, h3 with
  | [a, b, c], _ =>
   have ca := cw_two h a (by simp)
   have cb := cw_two h b (by simp)
   have cc := cw_two h c (by simp)
   have pa := hp a (by simp)
   have pb := hp b (by simp)
   have pc := hp c (by simp)
   have ea : (a.natAbs : Int) = a := by omega
   have eb : (b.natAbs : Int) = b := by omega
   have ec : (c.natAbs : Int) = c := by omega
   simp only [cnt, ea, eb, ec] at ca cb cc
   by_cases e1 : a = b
   ·subst e1
    by_cases e2 : a = c
    ·subst e2
     simp only [if_true] at ca
     omega
    ·simp only [if_true, if_neg e2, if_neg (Ne.symm e2)] at ca cc
     omega
   ·by_cases e2 : a = c
    ·subst e2
     simp only [if_true, if_neg e1, if_neg (Ne.symm e1)] at cb
     omega
    ·simp only [if_true, if_neg e1, if_neg e2, if_neg (Ne.symm e1), if_neg (Ne.symm e2)] at ca
     omega
 have hmem : ∀ y, y ∈ without w x → y ∈ w ∧ y ≠ x := fun y hy => by
  unfold without at hy
  rw [List.mem_filter] at hy
  exact ⟨hy.1, of_decide_eq_true hy.2⟩
 unfold cw
 rw [Bool.and_eq_true, Bool.and_eq_true, decide_eq_true_iff, List.all_eq_true]
 refine ⟨⟨?_, by omega⟩, fun y hy => ?_⟩
 ·unfold isW
  rw [Bool.and_eq_true, List.all_eq_true, decide_eq_true_iff]
  refine ⟨fun y hy => ?_, by omega⟩
  have := h2 y (hmem y hy).1
  unfold letB
  rw [decide_eq_true_iff]
  omega
 ·obtain ⟨m1, m2⟩ := hmem y hy
  rw [decide_eq_true_iff, cnt_without w hp x y (hp x hx), if_neg (fun e => m2 e.symm)]
  exact ⟨hp y m1, cw_two h y m1⟩
/-- Taking loops away, from a place on. -/
def dl : Nat → List Int → Nat → List Int
 | 0, w, _ => w
 | n + 1, w, i => if i < w.length ∧ 2 < w.length then (if w.getD i 0 = w.getD ((i + 1) % w.length) 0 then dl n (without w (w.getD i 0)) 0 else dl n w (i + 1)) else w
theorem tmod_nat (i n : Nat) : (((i : Int) + 1).tmod (n : Int)) = (((i + 1) % n : Nat) : Int) := by
 rw [Int.tmod_eq_emod_of_nonneg (by omega), show ((i : Int) + 1) = ((i + 1 : Nat) : Int) by omega]
 rfl
theorem rdD (w : List Int) (i : Nat) : rd w (i : Int) = w.getD i 0 := rfl
/-- How many rounds are left. -/
def left (w : List Int) (i : Nat) : Nat := (w.length + 1) * (w.length + 1) - i
theorem dl_len : ∀ (n : Nat) (w : List Int) (i : Nat), (dl n w i).length ≤ w.length := by
 intro n
 induction n with
 | zero => intro w i; exact Nat.le_refl _
 | succ n ih =>
  intro w i
  unfold dl
  split
  ·split
   ·exact Nat.le_trans (ih _ _) (without_len _ _)
   ·exact ih _ _
  ·exact Nat.le_refl _
theorem step_left {w : List Int} (h : cw w = true) {i : Nat} (hi : i < w.length) (h2 : 2 < w.length) : cw (without w (w.getD i 0)) = true ∧ left (without w (w.getD i 0)) 0 < left w i ∧ (without w (w.getD i 0)).length + 2 = w.length := by
 have hm : w.getD i 0 ∈ w := by
  rw [List.getD_eq_getElem?_getD, List.getElem?_eq_getElem hi]
  exact List.getElem_mem hi
 obtain ⟨h3, h4⟩ := cw_without h hm h2
 refine ⟨h3, ?_, h4⟩
 unfold left
 have e : (without w (w.getD i 0)).length = w.length - 2 := by omega
 rw [e]
 obtain ⟨n, hn⟩ : ∃ n, w.length = n + 2 := ⟨w.length - 2, by omega⟩
 rw [hn] at hi ⊢
 simp only [Nat.add_sub_cancel]
 have : (n + 2 + 1) * (n + 2 + 1) = (n + 1) * (n + 1) + 4 * (n + 1) + 4 := by grind
 omega
theorem spec_loops : ∀ (n k : Nat) (w : List Int) (i : Nat), cw w = true → left w i < n → i ≤ w.length → 2 * n + 100 < k → spec_DropLoops.l0 k w (i : Int) = some (dl n w i) := by
 intro n
 induction n with
 | zero => intro k w i _ h; omega
 | succ n ih =>
  intro k w i hc hl hi hk
  obtain ⟨k, rfl⟩ : ∃ m, k = m + 2 := ⟨k - 2, by omega⟩
  obtain ⟨h1, _⟩ := cw_true hc
  simp only [spec_DropLoops.l0, spec_DropLoops.j1, dl]
  by_cases h : i < w.length
  ·rw [if_pos (by omega)]
   by_cases h2 : 2 < w.length
   ·rw [if_pos (decide_eq_true (by omega)), if_pos (by omega), if_pos (by omega), if_neg (by omega), if_pos (show i < w.length ∧ 2 < w.length from ⟨h, h2⟩), w_id (by omega) (by omega), tmod_nat]
    have hlt := Nat.mod_lt (i + 1) (show 0 < w.length by omega)
    rw [if_pos (by omega), if_pos (by omega), rdD, rdD]
    by_cases h3 : w.getD i 0 = w.getD ((i + 1) % w.length) 0
    ·obtain ⟨s1, s2, s3⟩ := step_left hc h h2
     rw [if_pos h3, if_pos h3, spec_drop w (by omega) _ k (by omega), Option.bind_some]
     exact ih k _ 0 s1 (by omega) (by omega) (by omega)
    ·rw [if_neg h3, if_neg h3, show ((i : Int) + 1) = ((i + 1 : Nat) : Int) by omega]
     refine ih k w (i + 1) hc ?_ (by omega) (by omega)
     unfold left at hl ⊢
     have : w.length * 1 ≤ (w.length + 1) * (w.length + 1) := Nat.mul_le_mul (by omega) (by omega)
     omega
   ·rw [if_neg (by simp; omega), if_neg (fun h => h2 h.2)]
  ·rw [if_neg (by omega), if_neg (by decide), if_neg (fun h' => h h'.1)]
theorem loops_again (k : Nat) (w : List Int) (i : Int) : impl_DropLoops.l1 (k + 3) w true i = impl_DropLoops.l1 k w false 0 := by
 conv => lhs; unfold impl_DropLoops.l1; unfold impl_DropLoops.j2; unfold impl_DropLoops.l0
 simp
theorem loops_stop (k : Nat) (w : List Int) (i : Nat) (h : ¬ (i < w.length ∧ 2 < w.length)) : impl_DropLoops.l1 (k + 3) w false (i : Int) = some w := by
 conv => lhs; unfold impl_DropLoops.l1; unfold impl_DropLoops.j2; unfold impl_DropLoops.l0
 by_cases h1 : i < w.length
 ·rw [if_pos (by omega), if_neg (by decide), decide_eq_false (by omega)]
  simp
 ·rw [if_neg (by omega)]
  simp
theorem impl_loops : ∀ (n k : Nat) (w : List Int) (i : Nat), cw w = true → left w i < n → i ≤ w.length → 5 * n + 1048600 < k → impl_DropLoops.l1 k w false (i : Int) = some (dl n w i) := by
 intro n
 induction n with
 | zero => intro k w i _ h; omega
 | succ n ih =>
  intro k w i hc hl hi hk
  obtain ⟨h1, _⟩ := cw_true hc
  by_cases h : i < w.length ∧ 2 < w.length
  ·obtain ⟨k, rfl⟩ : ∃ m, k = m + 5 := ⟨k - 5, by omega⟩
   conv => lhs; unfold impl_DropLoops.l1; unfold impl_DropLoops.j2
   simp only [dl]
   have hlt := Nat.mod_lt (i + 1) (show 0 < w.length by omega)
   rw [if_pos (by omega), if_neg (by decide), if_pos (decide_eq_true (by omega)), if_pos (by omega), if_pos (by omega), if_neg (by omega), if_pos h, w_id (by omega) (by omega), tmod_nat, if_pos (by omega), if_pos (by omega), rdD, rdD]
   by_cases h3 : w.getD i 0 = w.getD ((i + 1) % w.length) 0
   ·obtain ⟨s1, s2, s3⟩ := step_left hc h.1 h.2
    have hm : w.getD i 0 ∈ w := by
     rw [List.getD_eq_getElem?_getD, List.getElem?_eq_getElem h.1]
     exact List.getElem_mem h.1
    have hd : dropR w (w.getD i 0) = (without w (w.getD i 0), true) := by
     unfold dropR
     rw [if_pos ⟨hc, hm, by omega⟩]
    rw [if_pos h3, if_pos h3, impl_dropC w (by omega) _ (k + 3) (by omega), Option.bind_some, hd]
    simp only
    rw [loops_again]
    exact ih k _ 0 s1 (by omega) (by omega) (by omega)
   ·rw [if_neg h3, if_neg h3, show ((i : Int) + 1) = ((i + 1 : Nat) : Int) by omega]
    refine ih (k + 3) w (i + 1) hc ?_ (by omega) (by omega)
    unfold left at hl ⊢
    have : w.length * 1 ≤ (w.length + 1) * (w.length + 1) := Nat.mul_le_mul (by omega) (by omega)
    omega
  ·obtain ⟨k, rfl⟩ : ∃ m, k = m + 3 := ⟨k - 3, by omega⟩
   rw [loops_stop k w i h]
   simp only [dl]
   rw [if_neg h]
def loopsR (w : List Int) : List Int := if cw w = true then dl 200 w 0 else []
theorem loopsR_len (w : List Int) : (loopsR w).length ≤ w.length := by
 unfold loopsR
 split
 ·exact dl_len _ _ _
 ·simp
theorem left_le {w : List Int} (h : cw w = true) : left w 0 < 200 := by
 obtain ⟨h1, _⟩ := cw_true h
 unfold left
 have : (w.length + 1) * (w.length + 1) ≤ 13 * 13 := Nat.mul_le_mul (by omega) (by omega)
 omega
theorem spec_loopsF (w : List Int) (hx : w.length ≤ 1048576) (k : Nat) (hk : 1060000 < k) : spec_DropLoops.f k w = some (loopsR w) := by
 unfold spec_DropLoops.f loopsR
 rw [spec_cw w hx k (by omega), Option.bind_some]
 by_cases h : cw w = true
 ·rw [if_pos h, if_pos h]
  simp only [Option.bind_some, List.length_nil, List.nil_append]
  rw [if_pos (by omega)]
  exact spec_loops 200 k w 0 h (left_le h) (by omega) (by omega)
 ·rw [if_neg h, if_neg h]
theorem impl_copy (w : List Int) (hx : w.length ≤ 1048576) : impl_copyOf.f w = some w := by
 unfold impl_copyOf.f
 simp only [Option.bind_some, List.length_nil, List.nil_append]
 rw [if_pos (by omega)]
theorem impl_loopsF (w : List Int) (hx : w.length ≤ 1048576) (k : Nat) (hk : 1060000 < k) : impl_DropLoops.f k w = some (loopsR w) := by
 unfold impl_DropLoops.f loopsR
 rw [impl_cw w hx k (by omega), Option.bind_some]
 by_cases h : cw w = true
 ·rw [if_pos h, if_pos h, impl_copy w hx, Option.bind_some]
  obtain ⟨k, rfl⟩ : ∃ m, k = m + 1 := ⟨k - 1, by omega⟩
  conv => lhs; unfold impl_DropLoops.l0
  rw [if_pos rfl]
  exact impl_loops 200 k w 0 h (left_le h) (by omega) (by omega)
 ·rw [if_neg h, if_neg h]
end Go.Proofs.Ytkmjcdlhlhefdaa.L

namespace Go.Proofs.Ytkmjcdlhlhefdaa.L
open Go Go.RowKit Go.Proofs.Ytkmjcdlhlhefdaa.P Go.Proofs.Ytkmjcdlhlhefdaa.Help Go.Proofs.YtkmjcdlhlhefdaaW.PrintWords
set_option linter.unusedVariables false
set_option linter.unusedSimpArgs false
/-- Both places of a letter, as numbers. -/
def cN (w : List Int) (x : Int) : Nat × Nat := ((pl w x).1.toNat, (pl w x).2.toNat)
theorem cN_at {w : List Int} (h : cw w = true) {x : Int} (hx : x ∈ w) : ∃ p q : Nat, pl w x = ((p : Int), (q : Int)) ∧ cN w x = (p, q) ∧ p < q ∧ q < w.length ∧ (∀ i : Nat, (h : i < w.length) → (w[i] = x ↔ i = p ∨ i = q)) := by
 obtain ⟨p, q, e, h1, h2, h3⟩ := pl_at (cw_pos h) (cw_two h) hx
 exact ⟨p, q, e, by unfold cN; rw [e]; rfl, h1, h2, h3⟩
theorem cN_P2 {w : List Int} (h : cw w = true) : P2 w (cN w) := by
 intro x hx
 obtain ⟨p, q, _, e, h1, h2, h3⟩ := cN_at h hx
 rw [e]
 exact ⟨h1, h2, h3⟩
theorem pv_eq (n p : Nat) : pv n p = 2 * prN p n + 1 := by
 unfold pv prN
 cases p with
 | zero => rfl
 | succ p => rfl
theorem mateK_eq (d : Nat) : mateK d = mateN d := by
 have e : Nat.land d 1 = d % 2 := Nat.and_one_is_mod d
 unfold mateK mateN
 rw [e]
 by_cases h : d % 2 = 0
 ·rw [if_pos h, h]
  rfl
 ·rw [if_neg h, show d % 2 = 1 by omega]
  rfl
theorem mateN_mate (d : Nat) : mateN (mateN d) = d := by
 unfold mateN
 split <;> split <;> omega
theorem cw_even : ∀ (L : Nat) (w : List Int), w.length ≤ L → cw w = true → w.length % 2 = 0
 | 0, w, hL, h => by have := (cw_true h).1; omega
 | L + 1, w, hL, h => by
  obtain ⟨⟨h2, _⟩, _⟩ := cw_true h
  by_cases e : w.length = 2
  ·omega
  ·have hx : w[0]'(by omega) ∈ w := List.getElem_mem _
   obtain ⟨h3, h4⟩ := cw_without h hx (by omega)
   have := cw_even L _ (by omega) h3
   omega
/-- In a ring of four, what follows. -/
theorem ring_mem (g : Nat → Nat) {n p q r2 r3 d : Nat} (b : Bool) (e2 : pv n p = r2) (e3 : pv n q = r3) (h01 : 2 * p ≠ 2 * q) (h02 : 2 * p ≠ r2) (h03 : 2 * p ≠ r3) (h12 : 2 * q ≠ r2) (h13 : 2 * q ≠ r3) (h23 : r2 ≠ r3) (hd : d = 2 * p ∨ d = 2 * q ∨ d = r2 ∨ d = r3) : (g d, nxr b (2 * p) (2 * q) r2 r3 d) ∈ ringP g n p q b := by
 unfold ringP nxr
 rw [e2, e3]
 generalize 2 * p = r0 at *
 generalize 2 * q = r1 at *
 cases b with
 | true =>
  rw [if_pos rfl, if_pos rfl]
  rcases hd with rfl | rfl | rfl | rfl
  ·rw [if_neg h03, if_neg h02, if_neg h01]; simp
  ·rw [if_neg h13, if_neg h12, if_pos rfl]; simp
  ·rw [if_neg h23, if_pos rfl]; simp
  ·rw [if_pos rfl]; simp
 | false =>
  rw [if_neg (by decide), if_neg (by decide)]
  rcases hd with rfl | rfl | rfl | rfl
  ·rw [if_pos rfl]; simp
  ·rw [if_neg h01.symm, if_pos rfl]; simp
  ·rw [if_neg h02.symm, if_neg h12.symm, if_pos rfl]; simp
  ·rw [if_neg h03.symm, if_neg h13.symm, if_neg h23.symm]; simp
theorem ring_keys (g : Nat → Nat) (n p q : Nat) (b : Bool) : ∀ e ∈ (ringP g n p q b).map Prod.fst, e = g (2 * p) ∨ e = g (2 * q) ∨ e = g (pv n p) ∨ e = g (pv n q) := by
 intro e he
 unfold ringP at he
 split at he <;> simpa using he
theorem ring_vals (g : Nat → Nat) {n p q : Nat} (b : Bool) (hp : p < n) (hq : q < n) (hn : n ≤ 10) : ∀ z ∈ ringP g n p q b, z.2 < 32 := by
 intro z hz
 have b1 := prN_bd hp
 have b2 := prN_bd hq
 unfold ringP at hz
 rw [pv_eq, pv_eq] at hz
 split at hz <;> simp only [List.mem_cons, List.not_mem_nil, or_false] at hz <;> rcases hz with rfl | rfl | rfl | rfl <;> dsimp only <;> omega
/-- All of a word's darts, by a choice. -/
def darts (w : List Int) (ls : List Int) (g : Nat → Nat) (f : Int → Bool) : List (Nat × Nat) := ls.flatMap fun x => ringP g w.length (cN w x).1 (cN w x).2 (f x)
theorem darts_keys {w : List Int} (h : cw w = true) {g : Nat → Nat} (hg : ∀ d e, g d = g e → d = e) (f : Int → Bool) : ∀ ls : List Int, ls.Nodup → (∀ x ∈ ls, x ∈ w) → ((darts w ls g f).map Prod.fst).Nodup ∧ ∀ e ∈ (darts w ls g f).map Prod.fst, ∃ d, d < 2 * w.length ∧ lam w d ∈ ls ∧ e = g d
 | [], _, _ => ⟨List.nodup_nil, fun e he => by cases he⟩
 | x :: ls, hn, hm => by
  rw [List.nodup_cons] at hn
  obtain ⟨k1, k2⟩ := darts_keys h hg f ls hn.2 (fun y hy => hm y (by simp [hy]))
  obtain ⟨p, q, ep, e, pq, ql, hi⟩ := cN_at h (hm x (by simp))
  have hp : p < w.length := by omega
  have b1 := prN_bd hp
  have b2 := prN_bd ql
  have b3 := prN_inj hp ql (by omega)
  have hx : darts w (x :: ls) g f = ringP g w.length p q (f x) ++ darts w ls g f := by
   unfold darts
   rw [List.flatMap_cons, e]
  have hd : ∀ d, d = 2 * p ∨ d = 2 * q ∨ d = 2 * prN p w.length + 1 ∨ d = 2 * prN q w.length + 1 → d < 2 * w.length ∧ lam w d = x := by
   intro d hd
   have hl : d < 2 * w.length := by omega
   exact ⟨hl, (lam_iff hp ql hi hl).2 hd⟩
  have k4 : ∀ e ∈ (ringP g w.length p q (f x)).map Prod.fst, ∃ d, (d < 2 * w.length ∧ lam w d = x) ∧ e = g d := by
   intro e he
   have := ring_keys g _ _ _ _ e he
   rw [pv_eq, pv_eq] at this
   rcases this with rfl | rfl | rfl | rfl
   ·exact ⟨_, hd _ (.inl rfl), rfl⟩
   ·exact ⟨_, hd _ (.inr (.inl rfl)), rfl⟩
   ·exact ⟨_, hd _ (.inr (.inr (.inl rfl))), rfl⟩
   ·exact ⟨_, hd _ (.inr (.inr (.inr rfl))), rfl⟩
  have k5 : ((ringP g w.length p q (f x)).map Prod.fst).Nodup := by
   have n01 : g (2 * p) ≠ g (2 * q) := fun c => by have := hg _ _ c; omega
   have n02 : g (2 * p) ≠ g (2 * prN p w.length + 1) := fun c => by have := hg _ _ c; omega
   have n03 : g (2 * p) ≠ g (2 * prN q w.length + 1) := fun c => by have := hg _ _ c; omega
   have n12 : g (2 * q) ≠ g (2 * prN p w.length + 1) := fun c => by have := hg _ _ c; omega
   have n13 : g (2 * q) ≠ g (2 * prN q w.length + 1) := fun c => by have := hg _ _ c; omega
   have n23 : g (2 * prN p w.length + 1) ≠ g (2 * prN q w.length + 1) := fun c => by have := hg _ _ c; omega
   unfold ringP
   rw [pv_eq, pv_eq]
   split <;> simp [n01, n02, n03, n12, n13, n23]
  rw [hx, List.map_append]
  refine ⟨List.nodup_append.2 ⟨k5, k1, fun a ha b hb c => ?_⟩, fun a ha => ?_⟩
  ·obtain ⟨d, ⟨d1, d2⟩, d3⟩ := k4 a ha
   obtain ⟨d', d1', d2', d3'⟩ := k2 b hb
   have := hg d d' (by rw [← d3, ← d3', c])
   rw [← this, d2] at d2'
   exact hn.1 d2'
  ·rcases List.mem_append.1 ha with ha | ha
   ·obtain ⟨d, ⟨d1, d2⟩, d3⟩ := k4 a ha
    exact ⟨d, d1, by rw [d2]; simp, d3⟩
   ·obtain ⟨d, d1, d2, d3⟩ := k2 a ha
    exact ⟨d, d1, by simp [d2], d3⟩
/-- The digits. -/
theorem darts_dig {w : List Int} (h : cw w = true) (h10 : w.length ≤ 10) {g : Nat → Nat} (hg : ∀ d e, g d = g e → d = e) {ls : List Int} (hn : ls.Nodup) (hls : ∀ x, x ∈ ls ↔ x ∈ w) (f : Int → Bool) (s : Int) (hf : ∀ x ∈ w, f x = decide (bitOf s x = 1)) {d : Nat} (hd : d < 2 * w.length) :
  T (darts w ls g f) / 32 ^ (g d) % 32 = nx w s d := by
 obtain ⟨p, q, ep, pq, ql, b1, b2, b3, en, hl⟩ := nx_ring h hd
 have hm := lam_mem hd
 have ec : cN w (lam w d) = (p, q) := by unfold cN; rw [ep]; rfl
 have hp : p < w.length := by omega
 have k := darts_keys h hg f ls hn (fun x hx => (hls x).1 hx)
 have hv : ∀ z ∈ darts w ls g f, z.2 < 32 := by
  intro z hz
  obtain ⟨x, hx, hz⟩ := List.mem_flatMap.1 hz
  obtain ⟨p', q', _, e', pq', ql', _⟩ := cN_at h ((hls x).1 hx)
  rw [e'] at hz
  exact ring_vals g _ (by omega) ql' h10 z hz
 have hin : (g d, nx w s d) ∈ darts w ls g f := by
  refine List.mem_flatMap.2 ⟨lam w d, (hls _).2 hm, ?_⟩
  rw [ec, en s, ← hf _ hm]
  exact ring_mem g _ (pv_eq _ _) (pv_eq _ _) (by omega) (by omega) (by omega) (by omega) (by omega) (by omega) ((hl d hd).1 rfl)
 exact T_dig k.1 hv hin
/-- What the enumeration tells of a word. -/
structure Chk (w : List Int) (n : Nat) (ls : List Int) : Prop where
 cw_ : cw w = true
 len : w.length = 2 * n
 n1 : 1 ≤ n
 n5 : n ≤ 5
 nodup : ls.Nodup
 mem : ∀ x, x ∈ ls ↔ x ∈ w
 faces : facesK n (ls.map (cN w)) = true
 verts : vertsK n (ls.map (cN w)) = true
theorem chk_of {w : List Int} (h : cw w = true) (h10 : w.length ≤ 10) : ∃ n ls, Chk w n ls := by
 have he := cw_even _ w (Nat.le_refl _) h
 have h2 := (cw_true h).1
 obtain ⟨n, hn⟩ : ∃ n, w.length = 2 * n := ⟨w.length / 2, by omega⟩
 obtain ⟨ls, h3, h4, h5⟩ := met_of n w (cN w) hn (cN_P2 h)
 obtain ⟨h6, h7⟩ := metK h5 (by omega) (by omega)
 exact ⟨n, ls, h, hn, by omega, by omega, h3, h4, h6, h7⟩
/-- The faces of a set's map. -/
noncomputable def fcs (w : List Int) (ls : List Int) (s : Int) : Nat := lp (T (darts w ls mateK (fun x => decide (bitOf s x = 1)))) (2 * (2 * w.length)) 0 0 0 0
theorem mate_inj (d e : Nat) (h : mateK d = mateK e) : d = e := by
 rw [mateK_eq, mateK_eq] at h
 rw [← mateN_mate d, h, mateN_mate]
theorem parts_one {w : List Int} (h : cw w = true) (s : Int) (k : Nat) (hk : 250 < k) : spec_l6Parts.f k (mapR w s) = some 1 ∧ impl_MapParts.f k (mapR w s) = some 1 := by
 obtain ⟨hw, _⟩ := cw_true h
 have hl := mapR_len w s
 have pm : Pm (mapR w s) (nx w s) := ⟨by omega, by omega, fun d hd => mapR_at h s (by omega), fun d hd => by rw [hl] at hd ⊢; exact (nx_bd h s hd).1, fun d e hd he hn => nx_inj h s (by omega) (by omega) hn⟩
 have hev : (mapR w s).length % 2 = 0 := by omega
 have hb : ∀ d, d < (mapR w s).length → 0 ≤ (mapR w s).getD d 0 ∧ (mapR w s).getD d 0 < ((mapR w s).length : Int) := by
  intro d hd
  rw [pm.at_ d hd]
  have := pm.bd d hd
  omega
 obtain ⟨c, c1, c2, up, S, ec⟩ := parts_f (by omega) pm.hi hev hb (isMap_f pm hev) k (by omega)
 have hq : allP (gq (mapR w s)) (mapR w s).length 0 = prs w s := by
  unfold prs
  rw [hl]
  have gen : ∀ (n i : Nat), i + n ≤ 2 * w.length → allP (gq (mapR w s)) n i = allP (gp w s) n i := by
   intro n
   induction n with
   | zero => intro i _; rfl
   | succ n ih =>
    intro i hi
    rw [allP, allP, ih (i + 1) (by omega)]
    unfold gq gp
    rw [mapR_at h s (by omega)]
  exact gen _ _ (by omega)
 rw [hq, hl, show ((2 * w.length : Nat) : Int) = 2 * (w.length : Int) by omega] at S
 have h1 := one_root h s S
 have h0 := (S.ok.rt_mem (i := 0) (by omega) (by have := S.len; omega)).1
 have h2 := List.length_pos_of_mem h0
 have : c = 1 := by omega
 subst this
 exact ⟨c1, c2⟩
/-- Vertices and faces of a set's map; the genus. -/
theorem map_of {w : List Int} {n : Nat} {l0 : List Int} (C : Chk w n l0) {ls : List Int} (hn' : ls.Nodup) (hm' : ∀ x, x ∈ ls ↔ x ∈ w) (s : Int) : (∀ k, 30 < k → impl_IsMap.f k (mapR w s) = some true) ∧ (∃ V : List (List Int), V.length = n ∧ ∀ k, 100 < k → spec_l6Cycles.f k (mapR w s) = some V ∧ impl_cycles.f k (mapR w s) = some V) ∧ gen w s = 1 - Int.tdiv ((fcs w ls s : Int) - n) 2 ∧ 1 ≤ fcs w ls s := by
 have h := C.cw_
 have hlen := C.len
 have hn5 := C.n5
 obtain ⟨hw, _⟩ := cw_true h
 have hl := mapR_len w s
 have pm : Pm (mapR w s) (nx w s) := ⟨by omega, by omega, fun d hd => mapR_at h s (by omega), fun d hd => by rw [hl] at hd ⊢; exact (nx_bd h s hd).1, fun d e hd he hn => nx_inj h s (by omega) (by omega) hn⟩
 have hev : (mapR w s).length % 2 = 0 := by omega
 have hb : ∀ d, d < (mapR w s).length → 0 ≤ (mapR w s).getD d 0 ∧ (mapR w s).getD d 0 < ((mapR w s).length : Int) := by
  intro d hd
  rw [pm.at_ d hd]
  have := pm.bd d hd
  omega
 have hb2 : ∀ d, d < (dualL (mapR w s)).length → 0 ≤ (dualL (mapR w s)).getD d 0 ∧ (dualL (mapR w s)).getD d 0 < ((dualL (mapR w s)).length : Int) := by
  intro d hd
  rw [getD_at hd, dualL_get _ hd, dualL_len]
  rw [dualL_len] at hd
  exact hb _ (mate_lt hev hd)
 have hmap := isMap_f pm hev
 have hf : ∀ x ∈ w, (fun x => decide (bitOf s x = 1)) x = decide (bitOf s x = 1) := fun _ _ => rfl
 obtain ⟨V, hV, cV⟩ := cyclesK pm.hi hb (P := T (darts w l0 (fun d => d) (fun x => decide (bitOf s x = 1)))) (fun e he => by
  rw [pm.at_ e he, Int.toNat_natCast]
  exact darts_dig h (by omega) (g := fun d => d) (fun _ _ e => e) C.nodup C.mem _ s hf (by omega))
 obtain ⟨F, hF, cF⟩ := cyclesK (m := dualL (mapR w s)) (by rw [dualL_len]; exact pm.hi) hb2 (P := T (darts w ls mateK (fun x => decide (bitOf s x = 1)))) (fun e he => by
  rw [getD_at he, dualL_get]
  rw [dualL_len] at he
  have hm := mate_lt hev he
  rw [pm.at_ _ hm, Int.toNat_natCast]
  have := darts_dig h (by omega) mate_inj hn' hm' _ s hf (d := mateN e) (by omega)
  rw [mateK_eq, mateN_mate] at this
  exact this)
 have hVn : V.length = n := by
  rw [hV]
  have := vertsK_spec n (cN w) l0 C.verts (fun x => decide (bitOf s x = 1))
  rw [hl, show 2 * (2 * w.length) = 2 * (4 * n) by omega]
  unfold darts
  rw [hlen]
  exact this
 have hFf : F.length = fcs w ls s := by
  rw [hF, dualL_len, hl]
  rfl
 have hF1 : 1 ≤ fcs w ls s := by
  have h4 : 4 ≤ 2 * (2 * w.length) := by omega
  have grow : ∀ (P k d0 cur seen c : Nat), c ≤ lp P k d0 cur seen c := by
   intro P k
   induction k with
   | zero => intro d0 cur seen c; exact Nat.le_refl _
   | succ k ih =>
    intro d0 cur seen c
    rw [lp_succ]
    split
    ·exact ih _ _ _ _
    ·refine Nat.le_trans ?_ (ih _ _ _ _)
     split <;> omega
  unfold fcs
  obtain ⟨r, hr⟩ : ∃ r, 2 * (2 * w.length) = r + 1 := ⟨2 * (2 * w.length) - 1, by omega⟩
  rw [hr, lp_succ, if_neg (by decide), if_pos rfl]
  exact grow _ _ _ _ _ _
 refine ⟨hmap, ⟨V, hVn, cV⟩, ?_, hF1⟩
 have w1 : wrap64 (((mapR w s).length : Int) / 2) = (w.length : Int) := by rw [hl]; exact (w_id (by omega) (by omega)).trans (by omega)
 have hF24 : F.length ≤ 24 := by
  obtain ⟨F', hF', cF'⟩ := cycles_f (m := dualL (mapR w s)) (by rw [dualL_len]; exact pm.hi) hb2
  have : F = F' := Option.some.inj ((cF 101 (by omega)).1.symm.trans (cF' 101 (by omega)).1)
  rw [this]
  exact hF'
 obtain ⟨r, r1, r2, r3⟩ := tdiv2 ((V.length : Int) - w.length + F.length)
 have w2 : wrap64 ((V.length : Int) - w.length) = (V.length : Int) - w.length := w_id (by omega) (by omega)
 have w3 : wrap64 ((V.length : Int) - w.length + F.length) = (V.length : Int) - w.length + F.length := w_id (by omega) (by omega)
 have w4 : wrap64 (Int.tdiv ((V.length : Int) - w.length + F.length) 2) = Int.tdiv ((V.length : Int) - w.length + F.length) 2 := by clear w1 w2 w3; exact w_id (by omega) (by omega)
 have w5 : wrap64 ((1 : Int) - Int.tdiv ((V.length : Int) - w.length + F.length) 2) = (1 : Int) - Int.tdiv ((V.length : Int) - w.length + F.length) 2 := by clear w1 w2 w3 w4; exact w_id (by omega) (by omega)
 unfold gen impl_GenusOf.f
 rw [hmap 251 (by omega), Option.bind_some, if_pos rfl, (parts_one h s 251 (by omega)).2, Option.bind_some, (cV 251 (by omega)).2, Option.bind_some, (dual_f pm.hi hev 251 (by omega)).2, Option.bind_some, (cF 251 (by omega)).2, Option.bind_some, w1, w2, w3, w4, w5]
 show 1 - Int.tdiv ((V.length : Int) - w.length + F.length) 2 = _
 rw [hVn, hFf, show ((n : Int) - (w.length : Int) + (fcs w ls s : Int)) = (fcs w ls s : Int) - n by omega]
end Go.Proofs.Ytkmjcdlhlhefdaa.L


namespace Go.Proofs.Ytkmjcdlhlhefdaa.L
open Go Go.RowKit Go.Proofs.Ytkmjcdlhlhefdaa.P Go.Proofs.Ytkmjcdlhlhefdaa.Help Go.Proofs.YtkmjcdlhlhefdaaW.PrintWords
set_option linter.unusedVariables false
set_option linter.unusedSimpArgs false
theorem td2 (a : Int) : Int.tdiv a 2 = if 0 ≤ a then a / 2 else -((-a) / 2) := by
 by_cases h : 0 ≤ a
 ·rw [if_pos h, Int.tdiv_eq_ediv_of_nonneg h]
 ·rw [if_neg h]
  have e : Int.tdiv a 2 = -(Int.tdiv (-a) 2) := by rw [Int.neg_tdiv, Int.neg_neg]
  rw [e, Int.tdiv_eq_ediv_of_nonneg (by omega)]
/-- The least genus. -/
theorem cg_mx {w : List Int} {n : Nat} {l0 : List Int} (C : Chk w n l0) {ls : List Int} (hn : ls.Nodup) (hm : ∀ x, x ∈ ls ↔ x ∈ w) : cgR w = 1 - Int.tdiv ((mxF w.length (ls.map (cN w)) : Int) - n) 2 ∧ 1 ≤ mxF w.length (ls.map (cN w)) := by
 have h := C.cw_
 obtain ⟨a1, a2⟩ := mxF_spec w.length (cN w) ls hn
 have up : ∀ s : Int, fcs w ls s ≤ mxF w.length (ls.map (cN w)) := fun s => a1 (fun x => decide (bitOf s x = 1))
 have one : 1 ≤ mxF w.length (ls.map (cN w)) := Nat.le_trans (map_of C hn hm 0).2.2.2 (up 0)
 refine ⟨?_, one⟩
 obtain ⟨s, hs, es⟩ : ∃ s : Nat, s < 256 ∧ mxF w.length (ls.map (cN w)) = fcs w ls (s : Int) := by
  rcases a2 with a2 | ⟨f, hf⟩
  ·omega
  ·obtain ⟨U, hU, hb⟩ := mask 8 (fun i => f ((i + 1 : Nat) : Int))
   refine ⟨U, hU, ?_⟩
   rw [hf]
   have e : ls.flatMap (fun x => ringP mateK w.length (cN w x).1 (cN w x).2 (f x)) = darts w ls mateK (fun x => decide (bitOf (U : Int) x = 1)) := by
    unfold darts
    have gen : ∀ l : List Int, (∀ x ∈ l, x ∈ w) → l.flatMap (fun x => ringP mateK w.length (cN w x).1 (cN w x).2 (f x)) = l.flatMap (fun x => ringP mateK w.length (cN w x).1 (cN w x).2 (decide (bitOf (U : Int) x = 1))) := by
     intro l
     induction l with
     | nil => intro _; rfl
     | cons x l ih =>
      intro hl
      rw [List.flatMap_cons, List.flatMap_cons, ih (fun y hy => hl y (by simp [hy]))]
      have hx := ((cw_true h).2 x (hl x (by simp))).1
      obtain ⟨i, rfl⟩ : ∃ i : Nat, x = ((i + 1 : Nat) : Int) := ⟨(x - 1).toNat, by omega⟩
      have hi : i < 8 := by omega
      rw [bit_nat hU hi, hb i hi]
      cases f ((i + 1 : Nat) : Int) <;> rfl
    exact gen ls (fun x hx => (hm x).1 hx)
   rw [e]
   rfl
 have hg : ∀ s : Int, gen w s = 1 - Int.tdiv ((fcs w ls s : Int) - n) 2 := fun s => (map_of C hn hm s).2.2.1
 have mono : ∀ s : Int, 1 - Int.tdiv ((mxF w.length (ls.map (cN w)) : Int) - n) 2 ≤ gen w s := by
  intro s
  rw [hg s, td2, td2]
  have := up s
  split <;> split <;> omega
 have hle : gen w (s : Int) ≤ 1000 := by have := (gen_f h (s : Int)).1; have := (cw_true h).1; omega
 have eq : gen w (s : Int) = 1 - Int.tdiv ((mxF w.length (ls.map (cN w)) : Int) - n) 2 := by rw [hg, es]
 unfold cgR
 rw [if_pos h]
 obtain ⟨b1, b2, b3⟩ := fmin_le ((List.range' 0 256).map fun (s : Nat) => gen w (s : Int)) 1000
 have c1 : fmin 1000 ((List.range' 0 256).map fun (s : Nat) => gen w (s : Int)) ≤ gen w (s : Int) := b2 _ (List.mem_map.2 ⟨s, List.mem_range'.2 ⟨s, hs, by omega⟩, rfl⟩)
 have c2 : 1 - Int.tdiv ((mxF w.length (ls.map (cN w)) : Int) - n) 2 ≤ fmin 1000 ((List.range' 0 256).map fun (s : Nat) => gen w (s : Int)) := by
  rcases b3 with b3 | b3
  ·rw [b3]
   omega
  ·obtain ⟨t, _, e⟩ := List.mem_map.1 b3
   rw [← e]
   exact mono t
 omega
/-- The three checks of a word. -/
theorem faces_of {w : List Int} {n : Nat} {ls : List Int} (C : Chk w n ls) : ((ls.map (cN w)).all oddK = true ∨ mxF w.length (ls.map (cN w)) ≤ n) ∧ turnedK n (ls.map (cN w)) (mxF w.length (ls.map (cN w))) = true ∧ loopsK n (ls.map (cN w)) (mxF w.length (ls.map (cN w))) = true := by
 have hf := C.faces
 unfold facesK at hf
 rw [frc_eq] at hf
 rw [C.len]
 change cond (planarK n (ls.map (cN w)) (mxF (2 * n) (ls.map (cN w)))) (cond (turnedK n (ls.map (cN w)) (mxF (2 * n) (ls.map (cN w)))) (loopsK n (ls.map (cN w)) (mxF (2 * n) (ls.map (cN w)))) false) false = true at hf
 cases h1 : planarK n (ls.map (cN w)) (mxF (2 * n) (ls.map (cN w))) with
 | false => rw [h1] at hf; cases hf
 | true =>
  rw [h1] at hf
  change cond (turnedK n (ls.map (cN w)) (mxF (2 * n) (ls.map (cN w)))) (loopsK n (ls.map (cN w)) (mxF (2 * n) (ls.map (cN w)))) false = true at hf
  cases h2 : turnedK n (ls.map (cN w)) (mxF (2 * n) (ls.map (cN w))) with
  | false => rw [h2] at hf; cases hf
  | true =>
   rw [h2] at hf
   refine ⟨?_, rfl, hf⟩
   unfold planarK at h1
   cases h3 : (ls.map (cN w)).all oddK with
   | true => exact .inl rfl
   | false =>
    rw [h3] at h1
    exact .inr (Nat.le_of_ble_eq_true h1)
/-- Planar words have odd gaps. -/
theorem odd_gap {w : List Int} {n : Nat} {ls : List Int} (C : Chk w n ls) (h0 : cgR w = 0) {x : Int} (hx : x ∈ w) : ((cN w x).2 - (cN w x).1) % 2 = 1 := by
 have hm := (cg_mx C C.nodup C.mem).1
 rcases (faces_of C).1 with h1 | h1
 ·rw [List.all_eq_true] at h1
  have h2 := h1 (cN w x) (List.mem_map_of_mem ((C.mem x).2 hx))
  have h3 := Nat.eq_of_beq_eq_true h2
  rw [← Nat.and_one_is_mod]
  exact h3
 ·rw [h0, td2] at hm
  split at hm <;> omega
theorem genus_le {w : List Int} {n : Nat} {ls : List Int} (C : Chk w n ls) : cgR w ≤ (n : Int) / 2 + 1 := by
 obtain ⟨hm, h1⟩ := cg_mx C C.nodup C.mem
 rw [hm, td2]
 split <;> omega
/-- Places that tell the letters. -/
theorem cN_of {w : List Int} (h : cw w = true) {x : Int} (hx : x ∈ w) {p q : Nat} (pq : p < q) (ql : q < w.length) (e1 : w[p] = x) (e2 : w[q] = x) : cN w x = (p, q) := by
 obtain ⟨a, b, _, e, ab, bl, hi⟩ := cN_at h hx
 have h1 := (hi p (by omega)).1 e1
 have h2 := (hi q ql).1 e2
 rw [e]
 have : p = a ∧ q = b := by omega
 rw [this.1, this.2]
/-- The word turned by one. -/
theorem turn_cg {w w' : List Int} (h : cw w = true) (h10 : w.length ≤ 10) (hl : w'.length = w.length) (hw' : cw w' = true) (hm : ∀ x, x ∈ w' ↔ x ∈ w) (hi : ∀ i : Nat, (h1 : i < w'.length) → ∀ h2 : (i + 1) % w.length < w.length, w'[i] = w[(i + 1) % w.length]) : cgR w' = cgR w := by
 obtain ⟨n, ls, C⟩ := chk_of h h10
 obtain ⟨n', l', C'⟩ := chk_of hw' (by omega)
 have hnn : n' = n := by have := C.len; have := C'.len; omega
 subst hnn
 have hlen := C.len
 have h1 := (cg_mx C C.nodup C.mem).1
 have h2 := (cg_mx C' C.nodup (fun x => (C.mem x).trans (hm x).symm)).1
 have ht := (faces_of C).2.1
 unfold turnedK at ht
 rw [mapK_eq, List.map_map] at ht
 have e : ls.map (cN w') = ls.map ((fun z : Nat × Nat => (cond (Nat.beq z.1 0) (Nat.sub z.2 1) (Nat.sub z.1 1), cond (Nat.beq z.1 0) (Nat.sub (Nat.mul 2 n') 1) (Nat.sub z.2 1))) ∘ cN w) := by
  refine List.map_congr_left (fun x hx => ?_)
  have hxw := (C.mem x).1 hx
  obtain ⟨p, q, _, ec, pq, ql, hp⟩ := cN_at h hxw
  have wp := (hp p (by omega)).2 (.inl rfl)
  have wq := (hp q ql).2 (.inr rfl)
  show cN w' x = _
  rw [Function.comp_apply, ec]
  have at_ : ∀ i j : Nat, (h1 : i < w'.length) → (h2 : j < w.length) → (i + 1) % w.length = j → w'[i] = w[j] := by
   intro i j h1 h2 e
   subst e
   exact hi i h1 h2
  by_cases p0 : p = 0
  ·subst p0
   show cN w' x = (q - 1, 2 * n' - 1)
   refine cN_of hw' ((hm x).2 hxw) (by omega) (by omega) ?_ ?_
   ·rw [at_ (q - 1) q (by omega) ql (by rw [show q - 1 + 1 = q by omega, Nat.mod_eq_of_lt ql])]
    exact wq
   ·rw [at_ (2 * n' - 1) 0 (by omega) (by omega) (by rw [show 2 * n' - 1 + 1 = w.length by omega, Nat.mod_self])]
    exact wp
  ·have eb : Nat.beq p 0 = false := Bool.eq_false_iff.2 (fun c => p0 (Nat.eq_of_beq_eq_true c))
   show cN w' x = (cond (Nat.beq p 0) (q - 1) (p - 1), cond (Nat.beq p 0) (2 * n' - 1) (q - 1))
   rw [eb]
   show cN w' x = (p - 1, q - 1)
   refine cN_of hw' ((hm x).2 hxw) (by omega) (by omega) ?_ ?_
   ·rw [at_ (p - 1) p (by omega) (by omega) (by rw [show p - 1 + 1 = p by omega, Nat.mod_eq_of_lt (by omega)])]
    exact wp
   ·rw [at_ (q - 1) q (by omega) ql (by rw [show q - 1 + 1 = q by omega, Nat.mod_eq_of_lt ql])]
    exact wq
 have h3 := Nat.eq_of_beq_eq_true ht
 rw [h1, h2, hl, e]
 have e2 : mxF w.length (ls.map ((fun z : Nat × Nat => (cond (Nat.beq z.1 0) (Nat.sub z.2 1) (Nat.sub z.1 1), cond (Nat.beq z.1 0) (Nat.sub (Nat.mul 2 n') 1) (Nat.sub z.2 1))) ∘ cN w)) = mxF w.length (ls.map (cN w)) := by
  rw [← h3, hlen]
  rfl
 rw [e2]
end Go.Proofs.Ytkmjcdlhlhefdaa.L


namespace Go.Proofs.Ytkmjcdlhlhefdaa.L
open Go Go.RowKit Go.Proofs.Ytkmjcdlhlhefdaa.P Go.Proofs.Ytkmjcdlhlhefdaa.Help Go.Proofs.YtkmjcdlhlhefdaaW.PrintWords
set_option linter.unusedVariables false
set_option linter.unusedSimpArgs false
/-- Where a place goes as places are taken out. -/
theorem filt_at (Q : Int → Bool) : ∀ (w : List Int) (i : Nat) (h : i < w.length), Q w[i] = true → (w.filter Q)[((w.take i).filter Q).length]? = some w[i]
 | [], i, h, _ => absurd h (Nat.not_lt_zero _)
 | a :: w, 0, h, hq => by
  have : Q a = true := hq
  simp [this]
 | a :: w, i + 1, h, hq => by
  have ih := filt_at Q w i (by simpa using h) (by simpa using hq)
  rw [List.take_succ_cons]
  cases ha : Q a with
  | true =>
   rw [List.filter_cons_of_pos ha, List.filter_cons_of_pos ha, List.length_cons, List.getElem?_cons_succ, ih, List.getElem_cons_succ]
  | false =>
   rw [List.filter_cons_of_neg (by simp [ha]), List.filter_cons_of_neg (by simp [ha]), ih, List.getElem_cons_succ]
theorem loK_eq {p q : Nat} (i : Nat) : loK p q i = i - (if p < i then 1 else 0) - (if q < i then 1 else 0) := by
 unfold loK
 have e : ∀ a : Nat, cond (Nat.ble (Nat.succ a) i) 1 0 = if a < i then 1 else 0 := by
  intro a
  by_cases h : a < i
  ·rw [if_pos h, show Nat.ble (Nat.succ a) i = true from Nat.ble_eq_true_of_le h]
   rfl
  ·rw [if_neg h, show Nat.ble (Nat.succ a) i = false from Bool.eq_false_iff.2 (fun c => h (Nat.le_of_ble_eq_true c))]
   rfl
 rw [e, e]
 rfl
theorem lo_len {w : List Int} {x : Int} {p q : Nat} (pq : p < q) (ql : q < w.length) (hi : ∀ i : Nat, (h : i < w.length) → (w[i] = x ↔ i = p ∨ i = q)) : ∀ i, i ≤ w.length → ((w.take i).filter (fun y => decide (y ≠ x))).length = loK p q i
 | 0, _ => by rw [loK_eq]; simp
 | i + 1, h => by
  have ih := lo_len pq ql hi i (by omega)
  rw [loK_eq] at ih
  rw [loK_eq, List.take_succ_eq_append_getElem (by omega), List.filter_append, List.length_append, ih]
  have := hi i (by omega)
  by_cases c : w[i]'(by omega) = x
  ·have c2 := this.1 c
   rw [List.filter_cons_of_neg (by simp [c])]
   simp only [List.filter_nil, List.length_nil]
   split <;> split <;> split <;> split <;> omega
  ·have c2 : ¬ (i = p ∨ i = q) := fun c3 => c (this.2 c3)
   rw [List.filter_cons_of_pos (by simp [c])]
   simp only [List.filter_nil, List.length_cons, List.length_nil]
   split <;> split <;> split <;> split <;> omega
theorem loop_step {w : List Int} (h : cw w = true) (h10 : w.length ≤ 10) (h2 : 2 < w.length) {x : Int} (hx : x ∈ w) (ha : adjK w.length (cN w x) = true) : cgR (without w x) = cgR w := by
 obtain ⟨n, ls, C⟩ := chk_of h h10
 obtain ⟨hw1, hl1⟩ := cw_without h hx h2
 obtain ⟨n', l', C'⟩ := chk_of hw1 (by omega)
 have hlen := C.len
 have hnn : n = n' + 1 := by have := C'.len; omega
 obtain ⟨p, q, _, ec, pq, ql, hi⟩ := cN_at h hx
 have hl := (faces_of C).2.2
 unfold loopsK at hl
 rw [show Nat.ble n 1 = false from Bool.eq_false_iff.2 (fun c => by have := Nat.le_of_ble_eq_true c; have := C'.n1; omega)] at hl
 change (List.all _ _) = true at hl
 rw [List.all_eq_true] at hl
 have h3 := hl (cN w x) (List.mem_map_of_mem ((C.mem x).2 hx))
 rw [show Nat.mul 2 n = w.length from hlen.symm, ha] at h3
 rw [cond_true, mapK_eq] at h3
 have h4 := Nat.eq_of_beq_eq_true h3
 have hmem1 : ∀ y, y ∈ without w x ↔ y ∈ w ∧ y ≠ x := by
  intro y
  unfold without
  rw [List.mem_filter, decide_eq_true_iff]
 have hm : ∀ y, y ∈ ls.filter (fun y => decide (y ≠ x)) ↔ y ∈ without w x := by
  intro y
  rw [List.mem_filter, C.mem, hmem1, decide_eq_true_iff]
 have e : ((ls.map (cN w)).filter fun y => cond (Nat.beq y.1 (cN w x).1) false true).map (fun z => (loK (cN w x).1 (cN w x).2 z.1, loK (cN w x).1 (cN w x).2 z.2)) = (ls.filter (fun y => decide (y ≠ x))).map (cN (without w x)) := by
  have gen : ∀ l : List Int, (∀ y ∈ l, y ∈ w) → ((l.map (cN w)).filter fun y => cond (Nat.beq y.1 (cN w x).1) false true).map (fun z => (loK (cN w x).1 (cN w x).2 z.1, loK (cN w x).1 (cN w x).2 z.2)) = (l.filter (fun y => decide (y ≠ x))).map (cN (without w x)) := by
   intro l
   induction l with
   | nil => intro _; rfl
   | cons y l ih =>
    intro hl
    have ih := ih (fun z hz => hl z (by simp [hz]))
    obtain ⟨a, b, _, ey, ab, bl, hy⟩ := cN_at h (hl y (by simp))
    have wa := (hy a (by omega)).2 (.inl rfl)
    have wb := (hy b bl).2 (.inr rfl)
    rw [List.map_cons]
    by_cases c : y = x
    ·subst c
     rw [List.filter_cons_of_neg (by rw [Nat.beq_refl]; decide), List.filter_cons_of_neg (by simp), ih]
    ·have ap : a ≠ p ∧ a ≠ q := by
      constructor <;> intro c2 <;> exact c (by rw [← wa]; exact (hi a (by omega)).2 (by omega))
     have bp : b ≠ p ∧ b ≠ q := by
      constructor <;> intro c2 <;> exact c (by rw [← wb]; exact (hi b bl).2 (by omega))
     have nb : Nat.beq (cN w y).1 (cN w x).1 = false := Bool.eq_false_iff.2 (fun c2 => by have := Nat.eq_of_beq_eq_true c2; rw [ey, ec] at this; exact ap.1 this)
     rw [List.filter_cons_of_pos (by rw [nb]; rfl), List.filter_cons_of_pos (by simp [c]), List.map_cons, List.map_cons, ih]
     congr 1
     rw [ey, ec]
     have at_ : ∀ i : Nat, (h1 : i < w.length) → w[i] = y → ∃ h2 : loK p q i < (without w x).length, (without w x)[loK p q i] = y := by
      intro i h1 e1
      have f := filt_at (fun z => decide (z ≠ x)) w i h1 (by rw [e1]; simp [c])
      rw [lo_len pq ql hi i (by omega), e1] at f
      obtain ⟨h2, e2⟩ := List.getElem?_eq_some_iff.1 f
      exact ⟨h2, e2⟩
     obtain ⟨la, ea⟩ := at_ a (by omega) wa
     obtain ⟨lb, eb⟩ := at_ b bl wb
     have hlt : loK p q a < loK p q b := by
      rw [loK_eq, loK_eq]
      have := ap
      have := bp
      split <;> split <;> split <;> split <;> omega
     exact (cN_of hw1 ((hmem1 y).2 ⟨hl y (by simp), c⟩) hlt lb ea eb).symm
  exact gen ls (fun y hy => (C.mem y).1 hy)
 rw [e] at h4
 have h5 := (cg_mx C C.nodup C.mem).1
 have h6 := (cg_mx C' (List.Pairwise.filter _ C.nodup) hm).1
 have h7 : Nat.sub w.length 2 = (without w x).length := by
  show w.length - 2 = _
  omega
 rw [h7] at h4
 rw [h5, h6, ← h4]
 congr 1
 congr 1
 rw [hnn]
 show _ = ((mxF _ _ + 1 : Nat) : Int) - ((n' + 1 : Nat) : Int)
 omega
/-- All loops. -/
theorem dl_cg : ∀ (k : Nat) (w : List Int) (i : Nat), cw w = true → w.length ≤ 10 → cgR (dl k w i) = cgR w
 | 0, w, i, _, _ => rfl
 | k + 1, w, i, h, h10 => by
  unfold dl
  by_cases c : i < w.length ∧ 2 < w.length
  ·rw [if_pos c]
   by_cases e : w.getD i 0 = w.getD ((i + 1) % w.length) 0
   ·rw [if_pos e]
    have hm : (i + 1) % w.length < w.length := Nat.mod_lt _ (by omega)
    rw [getD_at c.1, getD_at hm] at e
    have hx : w[i]'c.1 ∈ w := List.getElem_mem _
    obtain ⟨p, q, _, ec, pq, ql, hi⟩ := cN_at h hx
    have e1 := (hi i c.1).1 rfl
    have e2 := (hi _ hm).1 e.symm
    have hadj : adjK w.length (cN w (w[i]'c.1)) = true := by
     rw [ec]
     unfold adjK
     by_cases z : i + 1 = w.length
     ·rw [z, Nat.mod_self] at e2
      have hp : p = 0 ∧ q = i := by omega
      show cond (Nat.beq q (Nat.succ p)) true (cond (Nat.beq p 0) (Nat.beq (Nat.succ q) w.length) false) = true
      rw [hp.1, hp.2, show Nat.beq (Nat.succ i) w.length = true by rw [← z]; exact Nat.beq_refl _]
      cases Nat.beq i (Nat.succ 0) <;> rfl
     ·rw [Nat.mod_eq_of_lt (by omega)] at e2
      have hp : p = i ∧ q = i + 1 := by omega
      show cond (Nat.beq q (Nat.succ p)) true (cond (Nat.beq p 0) (Nat.beq (Nat.succ q) w.length) false) = true
      rw [hp.1, hp.2, show Nat.beq (i + 1) (Nat.succ i) = true from Nat.beq_refl _]
      rfl
    obtain ⟨h3, h4⟩ := cw_without h hx c.2
    rw [getD_at c.1, dl_cg k _ 0 h3 (by omega), loop_step h h10 c.2 hx hadj]
   ·rw [if_neg e]
    exact dl_cg k w (i + 1) h h10
  ·rw [if_neg c]
theorem loops_cg {w : List Int} (h : cw w = true) (h10 : w.length ≤ 10) : cgR (loopsR w) = cgR w := by
 unfold loopsR
 rw [if_pos h]
 exact dl_cg 200 w 0 h h10
end Go.Proofs.Ytkmjcdlhlhefdaa.L


namespace Go.Proofs.Ytkmjcdlhlhefdaa.L
open Go Go.RowKit Go.Proofs.Ytkmjcdlhlhefdaa.P Go.Proofs.Ytkmjcdlhlhefdaa.Help Go.Proofs.YtkmjcdlhlhefdaaW.PrintWords
set_option linter.unusedVariables false
set_option linter.unusedSimpArgs false
def sumL (f : Int → Int) : List Int → Int
 | [] => 0
 | y :: l => f y + sumL f l
theorem sumL_ext {f g : Int → Int} : ∀ l : List Int, (∀ y ∈ l, f y = g y) → sumL f l = sumL g l
 | [], _ => rfl
 | y :: l, h => by
  rw [sumL, sumL, h y (by simp), sumL_ext l (fun z hz => h z (by simp [hz]))]
theorem sumL_add (f g : Int → Int) : ∀ l : List Int, sumL (fun y => f y + g y) l = sumL f l + sumL g l
 | [] => rfl
 | y :: l => by
  rw [sumL, sumL, sumL, sumL_add f g l]
  omega
theorem sumL_mod {f g : Int → Int} : ∀ l : List Int, (∀ y ∈ l, f y % 2 = g y % 2) → sumL f l % 2 = sumL g l % 2
 | [], _ => rfl
 | y :: l, h => by
  have h1 := h y (by simp)
  have h2 := sumL_mod l (fun z hz => h z (by simp [hz]))
  rw [sumL, sumL]
  omega
theorem sumL_one {f g : Int → Int} {a : Int} (ha : g a = f a + 1) : ∀ l : List Int, l.Nodup → a ∈ l → (∀ y ∈ l, y ≠ a → g y = f y) → sumL g l = sumL f l + 1
 | [], _, h, _ => by cases h
 | y :: l, hn, h, hf => by
  rw [List.nodup_cons] at hn
  rw [sumL, sumL]
  rcases List.mem_cons.1 h with rfl | h
  ·rw [ha, sumL_ext l (fun z hz => hf z (by simp [hz]) (fun c => hn.1 (by rw [← c]; exact hz)))]
   omega
  ·rw [hf y (by simp) (fun c => hn.1 (by rw [c]; exact h)), sumL_one ha l hn.2 h (fun z hz => hf z (by simp [hz]))]
   omega
/-- How many of both places of a letter lie below i. -/
def bel (w : List Int) (i : Nat) (y : Int) : Int := (if (cN w y).1 < i then 1 else 0) + (if (cN w y).2 < i then 1 else 0)
theorem bel_sum {w : List Int} (h : cw w = true) {ls : List Int} (hn : ls.Nodup) (hm : ∀ x, x ∈ ls ↔ x ∈ w) : ∀ i : Nat, i ≤ w.length → sumL (bel w i) ls = i
 | 0, _ => by
  have : ∀ l : List Int, sumL (bel w 0) l = 0 := by
   intro l
   induction l with
   | nil => rfl
   | cons y l ih => rw [sumL, ih]; unfold bel; simp
  exact this ls
 | i + 1, hi => by
  have ih := bel_sum h hn hm i (by omega)
  have hx : w[i]'(by omega) ∈ w := List.getElem_mem _
  obtain ⟨p, q, _, ec, pq, ql, hp⟩ := cN_at h hx
  have e1 := (hp i (by omega)).1 rfl
  rw [sumL_one (f := bel w i) (a := w[i]'(by omega)) ?_ ls hn ((hm _).2 hx) ?_, ih]
  ·omega
  ·unfold bel
   rw [ec]
   dsimp only
   split <;> split <;> split <;> split <;> omega
  ·intro y hy hne
   obtain ⟨a, b, _, ey, ab, bl, hb⟩ := cN_at h ((hm y).1 hy)
   have na : ¬ (i = a ∨ i = b) := fun c => hne ((hb i (by omega)).2 c).symm
   unfold bel
   rw [ey]
   dsimp only
   split <;> split <;> split <;> split <;> omega
theorem lk_at {w : List Int} {x y : Int} {p q a b : Nat} (ex : pl w x = ((p : Int), (q : Int))) (ey : pl w y = ((a : Int), (b : Int))) : lk w x y = ((decide (p < a ∧ a < q)) != (decide (p < b ∧ b < q))) := by
 unfold lk
 rw [ex, ey]
 dsimp only
 have e1 : decide ((p : Int) < a ∧ (a : Int) < q) = decide (p < a ∧ a < q) := by
  by_cases c : p < a ∧ a < q
  ·rw [decide_eq_true c, decide_eq_true (by omega)]
  ·rw [decide_eq_false c, decide_eq_false (by omega)]
 have e2 : decide ((p : Int) < b ∧ (b : Int) < q) = decide (p < b ∧ b < q) := by
  by_cases c : p < b ∧ b < q
  ·rw [decide_eq_true c, decide_eq_true (by omega)]
  ·rw [decide_eq_false c, decide_eq_false (by omega)]
 rw [e1, e2]
def lkI (w : List Int) (x y : Int) : Int := if x ≠ y ∧ lk w x y = true then 1 else 0
theorem links_sum (w : List Int) (x : Int) : ∀ l : List Int, linksOf w x l = sumL (lkI w x) l
 | [] => rfl
 | y :: l => by
  rw [linksOf, sumL, links_sum w x l]
  rfl
/-- A letter's links have the parity of its gap. -/
theorem links_par {w : List Int} (h : cw w = true) {ls : List Int} (hn : ls.Nodup) (hm : ∀ x, x ∈ ls ↔ x ∈ w) {x : Int} (hx : x ∈ w) : linksOf w x ls % 2 = (((cN w x).2 : Int) - ((cN w x).1 : Int) - 1) % 2 := by
 obtain ⟨p, q, ep, ec, pq, ql, hp⟩ := cN_at h hx
 have s1 := bel_sum h hn hm q (by omega)
 have s2 := bel_sum h hn hm (p + 1) (by omega)
 have s3 : sumL (fun y => bel w q y + bel w (p + 1) y) ls = (q : Int) + ((p + 1 : Nat) : Int) := by rw [sumL_add, s1, s2]
 rw [links_sum, ec]
 dsimp only
 have e : sumL (lkI w x) ls % 2 = sumL (fun y => bel w q y + bel w (p + 1) y) ls % 2 := by
  refine sumL_mod ls (fun y hy => ?_)
  obtain ⟨a, b, ea, ey, ab, bl, hb⟩ := cN_at h ((hm y).1 hy)
  unfold bel lkI
  rw [ey]
  dsimp only
  by_cases c : x = y
  ·subst c
   rw [ec] at ey
   injection ey with e1 e2
   subst e1
   subst e2
   rw [if_neg (fun c => c.1 rfl)]
   split <;> split <;> split <;> split <;> omega
  ·have wa := (hb a (by omega)).2 (.inl rfl)
   have wb := (hb b bl).2 (.inr rfl)
   have na : ¬ (a = p ∨ a = q) := fun c2 => c (by rw [← wa]; exact ((hp a (by omega)).2 c2).symm)
   have nb : ¬ (b = p ∨ b = q) := fun c2 => c (by rw [← wb]; exact ((hp b bl).2 c2).symm)
   rw [lk_at ep ea]
   by_cases c1 : p < a ∧ a < q
   ·by_cases c2 : p < b ∧ b < q
    ·rw [decide_eq_true c1, decide_eq_true c2, if_neg (by simp)]
     split <;> split <;> split <;> split <;> omega
    ·rw [decide_eq_true c1, decide_eq_false c2, if_pos ⟨c, rfl⟩]
     split <;> split <;> split <;> split <;> omega
   ·by_cases c2 : p < b ∧ b < q
    ·rw [decide_eq_false c1, decide_eq_true c2, if_pos ⟨c, rfl⟩]
     split <;> split <;> split <;> split <;> omega
    ·rw [decide_eq_false c1, decide_eq_false c2, if_neg (by simp)]
     split <;> split <;> split <;> split <;> omega
 rw [e, s3]
 omega
theorem lkI_symm {w : List Int} (h : cw w = true) {x y : Int} (hx : x ∈ w) (hy : y ∈ w) : lkI w x y = lkI w y x := by
 obtain ⟨p, q, ep, ec, pq, ql, hp⟩ := cN_at h hx
 obtain ⟨a, b, ea, ey, ab, bl, hb⟩ := cN_at h hy
 unfold lkI
 by_cases c : x = y
 ·subst c
  rfl
 ·have wa := (hb a (by omega)).2 (.inl rfl)
  have wb := (hb b bl).2 (.inr rfl)
  have na : ¬ (a = p ∨ a = q) := fun c2 => c (by rw [← wa]; exact ((hp a (by omega)).2 c2).symm)
  have nb : ¬ (b = p ∨ b = q) := fun c2 => c (by rw [← wb]; exact ((hp b bl).2 c2).symm)
  have e : lk w x y = lk w y x := by
   rw [lk_at ep ea, lk_at ea ep]
   rw [Bool.eq_iff_iff]
   simp only [bne_iff_ne, ne_eq, decide_eq_decide]
   omega
  rw [e]
  have : (x ≠ y) ↔ (y ≠ x) := ⟨fun c h => c h.symm, fun c h => c h.symm⟩
  simp only [this]
theorem linkR_symm {w : List Int} (x y : Int) : linkR w x y = linkR w y x := by
 unfold linkR
 by_cases h : cw w = true
 ·by_cases c : x ≠ y ∧ x ∈ w ∧ y ∈ w
  ·have := lkI_symm h c.2.1 c.2.2
   unfold lkI at this
   have e : lk w x y = lk w y x := by
    cases h1 : lk w x y <;> cases h2 : lk w y x
    ·rfl
    ·rw [h1, h2, if_neg (by simp), if_pos ⟨fun e => c.1 e.symm, rfl⟩] at this; cases this
    ·rw [h1, h2, if_pos ⟨c.1, rfl⟩, if_neg (by simp)] at this; cases this
    ·rfl
   rw [e, decide_eq_true c, decide_eq_true ⟨fun e => c.1 e.symm, c.2.2, c.2.1⟩]
  ·rw [decide_eq_false c, decide_eq_false (fun c2 => c ⟨fun e => c2.1 e.symm, c2.2.2, c2.2.1⟩)]
   simp
 ·have : cw w = false := by simpa using h
  rw [this]
  rfl
/-- Sums over pairs, each pair twice. -/
theorem pairs_even {f : Int → Int → Int} (h0 : ∀ x, f x x = 0) : ∀ l : List Int, (∀ x ∈ l, ∀ y ∈ l, f x y = f y x) → sumL (fun x => sumL (f x) l) l % 2 = 0
 | [], _ => rfl
 | a :: l, hs => by
  have ih := pairs_even h0 l (fun x hx y hy => hs x (by simp [hx]) y (by simp [hy]))
  have e : sumL (fun x => sumL (f x) (a :: l)) l = sumL (fun x => f x a) l + sumL (fun x => sumL (f x) l) l := sumL_add (fun x => f x a) (fun x => sumL (f x) l) l
  have e2 : sumL (fun x => f x a) l = sumL (f a) l := sumL_ext l (fun x hx => hs x (by simp [hx]) a (by simp))
  rw [sumL, e, e2, sumL, h0]
  omega
theorem letters_nodup (w : List Int) : (letters w).Nodup := lettersF_nodup w 9 0
theorem letters_all {w : List Int} (h : cw w = true) (x : Int) : x ∈ letters w ↔ x ∈ w := ⟨letters_mem h x, letters_iff h⟩
theorem rowR_map {w : List Int} (h : cw w = true) : rowR w = (letters w).map (fun x => linksOf w x (letters w)) := by
 unfold rowR
 rw [if_pos h, rowF_map, ← letters_tail h]
/-- Planar words have even rows. -/
theorem row_even {w : List Int} {n : Nat} {ls : List Int} (C : Chk w n ls) (h0 : cgR w = 0) : ∀ v ∈ rowR w, v % 2 = 0 ∧ 0 ≤ v ∧ v ≤ 20 := by
 intro v hv
 have h := C.cw_
 rw [rowR_map h] at hv
 obtain ⟨x, hx, rfl⟩ := List.mem_map.1 hv
 have hxw := (letters_all h x).1 hx
 have hp := links_par h (letters_nodup w) (letters_all h) hxw
 have ho := odd_gap C h0 hxw
 obtain ⟨p, q, _, ec, pq, _, _⟩ := cN_at h hxw
 rw [ec] at hp ho
 dsimp only at hp ho
 have hb := linksOf_bd w x (letters w)
 have hl := lettersF_len w 9 0
 refine ⟨by omega, hb.1, ?_⟩
 have : (letters w).length ≤ 9 := hl
 omega
theorem row_bd {w : List Int} (h : cw w = true) : ∀ v ∈ rowR w, 0 ≤ v ∧ v ≤ 20 := by
 intro v hv
 rw [rowR_map h] at hv
 obtain ⟨x, hx, rfl⟩ := List.mem_map.1 hv
 have hb := linksOf_bd w x (letters w)
 have hl : (letters w).length ≤ 9 := lettersF_len w 9 0
 omega
/-- The row's sum is even. -/
theorem row_sum {w : List Int} (h : cw w = true) : (rowR w).sum % 2 = 0 := by
 rw [rowR_map h]
 have e : ∀ l : List Int, (l.map (fun x => linksOf w x (letters w))).sum = sumL (fun x => sumL (lkI w x) (letters w)) l := by
  intro l
  induction l with
  | nil => rfl
  | cons x l ih => rw [List.map_cons, List.sum_cons, ih, sumL, links_sum]
 rw [e]
 exact pairs_even (fun x => by unfold lkI; rw [if_neg (fun c => c.1 rfl)]) _ (fun x hx y hy => lkI_symm h ((letters_all h x).1 hx) ((letters_all h y).1 hy))
end Go.Proofs.Ytkmjcdlhlhefdaa.L

namespace Go.Proofs.Ytkmjcdlhlhefdaa.L
open Go Go.RowKit Go.Proofs.Ytkmjcdlhlhefdaa.P Go.Proofs.Ytkmjcdlhlhefdaa.Help Go.Proofs.YtkmjcdlhlhefdaaW.PrintWords
set_option linter.unusedVariables false
set_option linter.unusedSimpArgs false
theorem and255 (x : Int) : 0 ≤ bits .and .i64 x 255 ∧ bits .and .i64 x 255 ≤ 255 := by
 have h : ∀ n : Nat, n ≤ 255 → 0 ≤ IntKind.i64.wrap (n : Int) ∧ IntKind.i64.wrap (n : Int) ≤ 255 := by
  intro n hn
  simp [IntKind.wrap, IntKind.signed, IntKind.bits]
  split <;> omega
 unfold bits
 refine h _ ?_
 show (BitVec.ofInt IntKind.i64.bits x &&& BitVec.ofInt IntKind.i64.bits 255).toNat ≤ 255
 rw [BitVec.toNat_and]
 refine Nat.le_trans Nat.and_le_right ?_
 decide
/-- A cursor over bytes. -/
def Cur (b : List Int) (i : Int) : Prop := 0 ≤ i ∧ i ≤ 4000000000 ∧ (b.length : Int) ≤ 1048576
theorem Cur.start {b : List Int} (h : b.length ≤ 1048576) : Cur b 0 := ⟨by decide, by decide, by omega⟩
theorem byte_ok {b : List Int} {i : Int} (h : Int) (hc : Cur b i) : ∃ x i' h', spec_l1Byte.f b i h = some (x, i', h') ∧ 0 ≤ x ∧ x ≤ 255 ∧ Cur b i' := by
 obtain ⟨c1, c2, c3⟩ := hc
 unfold spec_l1Byte.f
 by_cases h1 : i < (b.length : Int)
 ·rw [if_pos h1, if_pos c1]
  refine ⟨_, _, _, rfl, (and255 _).1, (and255 _).2, ?_⟩
  rw [w_id (by omega) (by omega)]
  exact ⟨by omega, by omega, c3⟩
 ·rw [if_neg h1]
  exact ⟨_, _, _, rfl, (and255 _).1, (and255 _).2, c1, c2, c3⟩
theorem tmod_ok {x n : Int} (hx : 0 ≤ x) (hn : 0 < n) : 0 ≤ Int.tmod x n ∧ Int.tmod x n < n := by
 rw [Int.tmod_eq_emod_of_nonneg hx]
 exact ⟨Int.emod_nonneg _ (by omega), Int.emod_lt_of_pos _ hn⟩
theorem below_ok {b : List Int} {i : Int} (h n : Int) (hc : Cur b i) (hn : 0 < n) : ∃ x i' h', spec_l1Below.f b i h n = some (x, i', h') ∧ 0 ≤ x ∧ x < n ∧ Cur b i' := by
 unfold spec_l1Below.f
 rw [if_neg (by omega)]
 by_cases h1 : n ≤ 256
 ·rw [if_pos h1]
  obtain ⟨x, i', h', e, x0, x1, c'⟩ := byte_ok h hc
  rw [e, Option.bind_some, if_neg (by omega)]
  have := tmod_ok x0 hn
  exact ⟨_, _, _, rfl, this.1, this.2, c'⟩
 ·rw [if_neg h1]
  obtain ⟨x, i1, h1', e1, x0, x1, c1⟩ := byte_ok h hc
  obtain ⟨y, i2, h2', e2, y0, y1, c2⟩ := byte_ok h1' c1
  obtain ⟨z, i3, h3', e3, z0, z1, c3⟩ := byte_ok h2' c2
  obtain ⟨v, i4, h4', e4, v0, v1, c4⟩ := byte_ok h3' c3
  rw [e1, Option.bind_some]
  dsimp only
  rw [e2, Option.bind_some]
  dsimp only
  rw [e3, Option.bind_some]
  dsimp only
  rw [e4, Option.bind_some]
  dsimp only
  rw [if_neg (by omega), w_id (a := x * 16777216) (by omega) (by omega), w_id (a := y * 65536) (by omega) (by omega), w_id (a := z * 256) (by omega) (by omega), w_id (a := x * 16777216 + y * 65536) (by omega) (by omega), w_id (a := x * 16777216 + y * 65536 + z * 256) (by omega) (by omega), w_id (by omega) (by omega)]
  have := tmod_ok (show 0 ≤ x * 16777216 + y * 65536 + z * 256 + v by omega) hn
  exact ⟨_, _, _, rfl, this.1, this.2, c4⟩
theorem rd_mem {l : List Int} {x : Int} (h0 : 0 ≤ x) (h1 : x < (l.length : Int)) : rd l x ∈ l := by
 obtain ⟨n, rfl⟩ := Int.eq_ofNat_of_zero_le h0
 rw [rd_nat l n (by omega)]
 exact List.getElem_mem _
theorem pickInt_ok {b : List Int} {i : Int} (h : Int) (l : List Int) (hc : Cur b i) (hl : 0 < l.length) : ∃ x i' h', spec_l1PickInt.f b i h l = some (x, i', h') ∧ x ∈ l ∧ Cur b i' := by
 obtain ⟨x, i', h', e, x0, x1, c'⟩ := below_ok h (l.length : Int) hc (by omega)
 unfold spec_l1PickInt.f
 rw [e, Option.bind_some, if_pos x0, if_pos x1]
 exact ⟨_, _, _, rfl, rd_mem x0 x1, c'⟩
theorem new_l0 (l : List Int) (hl : l.length ≤ 1048576) : ∀ (d k : Nat) (h i : Int), i + d = 4000 → 0 ≤ i → d < k → ∃ h', spec_l1New.l0 k l h i = some (l, 0, h')
 | 0, k, h, i, hi, h0, hk => by
  obtain ⟨k, rfl⟩ : ∃ m, k = m + 1 := ⟨k - 1, by omega⟩
  simp only [spec_l1New.l0]
  by_cases c : i < (l.length : Int)
  ·rw [if_pos c, if_neg (by omega)]; exact ⟨_, rfl⟩
  ·rw [if_neg c]; exact ⟨_, rfl⟩
 | d + 1, k, h, i, hi, h0, hk => by
  obtain ⟨k, rfl⟩ : ∃ m, k = m + 1 := ⟨k - 1, by omega⟩
  simp only [spec_l1New.l0]
  by_cases c : i < (l.length : Int)
  ·rw [if_pos c, if_pos (by omega), if_pos h0, w_id (a := i + 1) (by omega) (by omega)]
   exact new_l0 l hl d k _ (i + 1) (by omega) (by omega) (by omega)
  ·rw [if_neg c]; exact ⟨_, rfl⟩
theorem new_ok (l : List Int) (hl : l.length ≤ 1048576) (k : Nat) (hk : 4000 < k) : ∃ h', spec_l1New.f k l = some (l, 0, h') := by
 unfold spec_l1New.f
 exact new_l0 l hl 4000 k _ 0 (by omega) (by omega) hk
end Go.Proofs.Ytkmjcdlhlhefdaa.L

namespace Go.Proofs.Ytkmjcdlhlhefdaa.L
open Go Go.RowKit Go.Proofs.Ytkmjcdlhlhefdaa.P Go.Proofs.Ytkmjcdlhlhefdaa.Help Go.Proofs.YtkmjcdlhlhefdaaW.PrintWords
set_option linter.unusedVariables false
set_option linter.unusedSimpArgs false
theorem g18_step {b : List Int} (k : Nat) (x3 : List Int) (x4 x5 x6 i h : Int) (hc : Cur b i) (hl : x3.length ≤ 100) (h6 : 0 ≤ x6) (h62 : x6 < 2) : ∃ y i' h', spec_l18Draw.l1 (k + 1) x3 x4 x5 x6 b i h = spec_l18Draw.l1 k y x4 x5 (x6 + 1) b i' h' ∧ y.length = x3.length + 1 ∧ Cur b i' := by
 obtain ⟨v, i1, h1, e1, v0, v1, c1⟩ := below_ok h ((x3.length : Int) + 1) hc (by omega)
 have hd : (x3.drop v.toNat).length ≤ 100 := by rw [List.length_drop]; omega
 have ht : (x3.take v.toNat).length ≤ 100 := by rw [List.length_take]; omega
 refine ⟨(x3.take v.toNat ++ [x5]) ++ ([] ++ x3.drop v.toNat), i1, h1, ?_, ?_, c1⟩
 ·simp only [spec_l18Draw.l1, Option.bind_some]
  rw [if_pos h62, w_id (a := (x3.length : Int) + 1) (by omega) (by omega), e1, Option.bind_some]
  dsimp only
  rw [if_pos v0, if_pos (by omega), if_pos (by simp only [List.length_nil]; omega), if_pos (by omega), if_pos (by simp only [List.length_append, List.length_nil, List.length_cons]; omega), w_id (a := x6 + 1) (by omega) (by omega)]
 ·simp only [List.length_append, List.length_cons, List.length_nil, List.length_take, List.length_drop]
  omega
theorem g18_l0 {b : List Int} : ∀ (d k : Nat) (x3 : List Int) (x4 x5 i h : Int), x5 + (d : Int) = x4 + 1 → 1 ≤ x4 → x4 ≤ 5 → 1 ≤ x5 → (x3.length : Int) = 2 * (x5 - 1) → Cur b i → 5 * d + 10 < k → ∃ w i' h', spec_l18Draw.l0 k x3 x4 x5 b i h = some (w, i', h') ∧ (1 ≤ w.length ∧ w.length ≤ 10) ∧ Cur b i'
 | 0, k, x3, x4, x5, i, h, hd, h1, h5, hx, hl, hc, hk => by
  obtain ⟨k, rfl⟩ : ∃ m, k = m + 1 := ⟨k - 1, by omega⟩
  simp only [spec_l18Draw.l0]
  obtain ⟨v, i1, h1', e1, _, _, c1⟩ := below_ok h 16 hc (by decide)
  rw [if_neg (by omega), e1, Option.bind_some]
  dsimp only
  by_cases q0 : v = 0
  ·obtain ⟨z, i2, h2, e2, _, c2⟩ := pickInt_ok h1' [(-1), 8, 9] c1 (by decide)
   rw [if_pos q0, e2, Option.bind_some, if_pos (by omega)]
   exact ⟨_, _, _, rfl, by rw [List.length_set]; omega, c2⟩
  ·rw [if_neg q0]
   by_cases q1 : v = 1
   ·rw [if_pos q1]
    exact ⟨_, _, _, rfl, by decide, c1⟩
   ·rw [if_neg q1]
    by_cases q2 : v = 2
    ·rw [if_pos q2]
     exact ⟨_, _, _, rfl, by decide, c1⟩
    ·rw [if_neg q2]
     exact ⟨_, _, _, rfl, by omega, c1⟩
 | d + 1, k, x3, x4, x5, i, h, hd, h1, h5, hx, hl, hc, hk => by
  obtain ⟨k, rfl⟩ : ∃ m, k = m + 1 + 1 + 1 + 1 := ⟨k - 4, by omega⟩
  have e0 : spec_l18Draw.l0 (k + 1 + 1 + 1 + 1) x3 x4 x5 b i h = spec_l18Draw.l1 (k + 1 + 1 + 1) x3 x4 x5 0 b i h := by
   simp only [spec_l18Draw.l0]
   rw [if_pos (by omega)]
  obtain ⟨y, i1, h1', e1, l1, c1⟩ := g18_step (k + 1 + 1) x3 x4 x5 0 i h hc (by omega) (by omega) (by omega)
  obtain ⟨z, i2, h2', e2, l2, c2⟩ := g18_step (k + 1) y x4 x5 (0 + 1) i1 h1' c1 (by omega) (by omega) (by omega)
  have e3 : spec_l18Draw.l1 (k + 1) z x4 x5 (0 + 1 + 1) b i2 h2' = spec_l18Draw.l0 k z x4 (x5 + 1) b i2 h2' := by
   simp only [spec_l18Draw.l1]
   rw [if_neg (by omega), w_id (a := x5 + 1) (by omega) (by omega)]
  rw [e0, e1, e2, e3]
  exact g18_l0 d k z x4 (x5 + 1) i2 h2' (by omega) h1 h5 (by omega) (by omega) c2 (by omega)
theorem draw18_ok {b : List Int} {i : Int} (h : Int) (hc : Cur b i) (k : Nat) (hk : 100 < k) : ∃ w i' h', spec_l18Draw.f k b i h = some (w, i', h') ∧ (1 ≤ w.length ∧ w.length ≤ 10) ∧ Cur b i' := by
 unfold spec_l18Draw.f
 obtain ⟨v, i1, h1, e1, v0, v1, c1⟩ := below_ok h 5 hc (by decide)
 rw [e1, Option.bind_some]
 dsimp only
 rw [w_id (a := 1 + v) (by omega) (by omega)]
 obtain ⟨n, hn⟩ := Int.eq_ofNat_of_zero_le (show 0 ≤ 1 + v by omega)
 exact g18_l0 n k [] (1 + v) 1 i1 h1 (by omega) (by omega) (by omega) (by omega) (by simp) c1 (by omega)
theorem drawCG_ok (l : List Int) (hl : l.length ≤ 1048576) (k : Nat) (hk : 5000 < k) : ∃ w, spec_DrawCurveGenus.f k l = some w ∧ (1 ≤ w.length ∧ w.length ≤ 10) := by
 unfold spec_DrawCurveGenus.f
 obtain ⟨h0, e0⟩ := new_ok l hl k (by omega)
 obtain ⟨w, i', h', e, hw, c⟩ := draw18_ok h0 (Cur.start hl) k (by omega)
 rw [e0, Option.bind_some]
 dsimp only
 rw [e, Option.bind_some]
 exact ⟨w, rfl, hw⟩
theorem drawAL_ok (l : List Int) (hl : l.length ≤ 1048576) (k : Nat) (hk : 5000 < k) : ∃ w x y, spec_DrawAreLinked.f k l = some (w, x, y) ∧ (1 ≤ w.length ∧ w.length ≤ 10) := by
 unfold spec_DrawAreLinked.f
 obtain ⟨h0, e0⟩ := new_ok l hl k (by omega)
 obtain ⟨w, i', h', e, hw, c⟩ := draw18_ok h0 (Cur.start hl) k (by omega)
 rw [e0, Option.bind_some]
 dsimp only
 rw [e, Option.bind_some]
 dsimp only
 obtain ⟨x, i2, h2, e2, _, _, c2⟩ := below_ok h' 5 c (by decide)
 obtain ⟨y, i3, h3, e3, _, _, c3⟩ := below_ok h2 4 c2 (by decide)
 rw [e2, Option.bind_some]
 dsimp only
 rw [e3, Option.bind_some]
 exact ⟨w, _, _, rfl, hw⟩
theorem drawCM_ok (l : List Int) (hl : l.length ≤ 1048576) (k : Nat) (hk : 5000 < k) : ∃ w s, spec_DrawCrossingMap.f k l = some (w, s) ∧ (1 ≤ w.length ∧ w.length ≤ 10) := by
 unfold spec_DrawCrossingMap.f
 obtain ⟨h0, e0⟩ := new_ok l hl k (by omega)
 obtain ⟨w, i', h', e, hw, c⟩ := draw18_ok h0 (Cur.start hl) k (by omega)
 rw [e0, Option.bind_some]
 dsimp only
 rw [e, Option.bind_some]
 dsimp only
 obtain ⟨x, i2, h2, e2, _, c2⟩ := pickInt_ok h' [0, 1, 2, 3, 5, 31, 255, 256, (-1)] c (by decide)
 rw [e2, Option.bind_some]
 exact ⟨w, _, rfl, hw⟩
theorem drawDC_ok (l : List Int) (hl : l.length ≤ 1048576) (k : Nat) (hk : 5000 < k) : ∃ w x, spec_DrawDropCrossing.f k l = some (w, x) ∧ (1 ≤ w.length ∧ w.length ≤ 10) := by
 unfold spec_DrawDropCrossing.f
 obtain ⟨h0, e0⟩ := new_ok l hl k (by omega)
 obtain ⟨w, i', h', e, hw, c⟩ := draw18_ok h0 (Cur.start hl) k (by omega)
 rw [e0, Option.bind_some]
 dsimp only
 rw [e, Option.bind_some]
 dsimp only
 obtain ⟨x, i2, h2, e2, _, _, c2⟩ := below_ok h' 7 c (by decide)
 rw [e2, Option.bind_some]
 exact ⟨w, _, rfl, hw⟩
end Go.Proofs.Ytkmjcdlhlhefdaa.L


namespace Go.Proofs.Ytkmjcdlhlhefdaa.L
open Go.RowKit Go.Proofs.Ytkmjcdlhlhefdaa.P Go.Proofs.Ytkmjcdlhlhefdaa.Help Go.Proofs.YtkmjcdlhlhefdaaW.PrintWords
set_option linter.unusedVariables false
set_option linter.unusedSimpArgs false

end Go.Proofs.Ytkmjcdlhlhefdaa.L


namespace Go.Proofs.Ytkmjcdlhlhefdaa.L
open Go.RowKit Go.Proofs.Ytkmjcdlhlhefdaa.P Go.Proofs.Ytkmjcdlhlhefdaa.Help Go.Proofs.YtkmjcdlhlhefdaaW.PrintWords
set_option linter.unusedVariables false
set_option linter.unusedSimpArgs false

end Go.Proofs.Ytkmjcdlhlhefdaa.L

namespace Go.Proofs.Ytkmjcdlhlhefdaa.L
open Go Go.RowKit Go.Proofs.Ytkmjcdlhlhefdaa.P Go.Proofs.Ytkmjcdlhlhefdaa.Help Go.Proofs.YtkmjcdlhlhefdaaW.PrintWords
set_option linter.unusedVariables false
set_option linter.unusedSimpArgs false
theorem same_l0 (xs : List Int) (hx : xs.length ≤ 1048576) : ∀ (d k i : Nat), i + d = xs.length → d < k → laws_sameInts.l0 k xs xs (i : Int) = some true := by
 intro d
 induction d with
 | zero =>
  intro k i hi hk
  obtain ⟨k, rfl⟩ : ∃ m, k = m + 1 := ⟨k - 1, by omega⟩
  simp only [laws_sameInts.l0]
  rw [if_neg (by omega)]
 | succ d ih =>
  intro k i hi hk
  obtain ⟨k, rfl⟩ : ∃ m, k = m + 1 := ⟨k - 1, by omega⟩
  simp only [laws_sameInts.l0]
  rw [if_pos (by omega), if_pos (by omega), if_pos (by omega)]
  simp only [if_true]
  rw [w_id (by omega) (by omega), show ((i : Int) + 1) = ((i + 1 : Nat) : Int) by omega, ih k (i + 1) (by omega) (by omega)]
theorem same_f (xs : List Int) (hx : xs.length ≤ 1048576) (k : Nat) (hk : 1048576 < k) : laws_sameInts.f k xs xs = some true := by
 unfold laws_sameInts.f
 rw [if_pos rfl]
 exact same_l0 xs hx xs.length k 0 (by omega) (by omega)
end Go.Proofs.Ytkmjcdlhlhefdaa.L

namespace Go.Proofs.Ytkmjcdlhlhefdaa.Pure
open Go Go.RowKit Go.Proofs.Ytkmjcdlhlhefdaa.P Go.Proofs.Ytkmjcdlhlhefdaa.L Go.Proofs.Ytkmjcdlhlhefdaa.Help Go.Proofs.YtkmjcdlhlhefdaaW.PrintWords
set_option linter.unusedVariables false
set_option linter.unusedSimpArgs false
theorem sperm_l0 {m : List Int} {f : Nat → Nat} (h : Pm m f) : ∀ (d k i : Nat), i + d = m.length → d < k → spec_l6Perm.l0 k m (seenF f m.length i) (i : Int) = some true
 | 0, k, i, hi, hk => by
  obtain ⟨k, rfl⟩ : ∃ m, k = m + 1 := ⟨k - 1, by omega⟩
  simp only [spec_l6Perm.l0]
  rw [if_neg (by omega)]
 | d + 1, k, i, hi, hk => by
  obtain ⟨k, rfl⟩ : ∃ m, k = m + 1 := ⟨k - 1, by omega⟩
  have h1 := h.lo
  have h2 := h.hi
  have hlt : i < m.length := by omega
  have e := h.at_ i hlt
  have b := h.bd i hlt
  have ns : (seenF f m.length i).getD (f i) false = false := by
   rw [seenF_at f b, List.any_eq_false]
   intro d' hd' he
   rw [List.mem_range] at hd'
   have := h.inj d' i (by omega) hlt (by simpa using he)
   omega
  simp only [spec_l6Perm.l0]
  rw [if_pos (by omega), if_pos (by omega), rdg, e, w_id (a := (m.length : Int) - 1) (by omega) (by omega), l1In_eq, Option.bind_some, if_pos (decide_eq_true ⟨by omega, by omega⟩), if_pos (by omega), if_pos (by rw [seenF_len]; omega), rdb, ns, if_neg (by decide), Int.toNat_natCast, seenF_set f b, w_id (a := (i : Int) + 1) (by omega) (by omega), show ((i : Int) + 1) = ((i + 1 : Nat) : Int) by omega]
  exact sperm_l0 h d k (i + 1) (by omega) (by omega)
theorem smap_f {m : List Int} {f : Nat → Nat} (h : Pm m f) (he : m.length % 2 = 0) (k : Nat) (hk : 30 < k) : spec_IsMap.f k m = some true := by
 have h1 := h.lo
 have h2 := h.hi
 have hp : spec_l6Perm.l0 k m (seenF f m.length 0) 0 = some true := sperm_l0 h m.length k 0 (by omega) (by omega)
 unfold spec_IsMap.f spec_l6Perm.f
 rw [l1In_eq, Option.bind_some, if_pos (decide_eq_true ⟨by omega, by omega⟩), if_pos (by omega), if_pos (by omega), if_pos (by omega), Int.toNat_natCast, ← seenF_zero f, hp]
 rfl
theorem mapR_pm {w : List Int} (h : cw w = true) (s : Int) : Pm (mapR w s) (nx w s) := by
 have hw := (cw_true h).1
 have hl := mapR_len w s
 exact ⟨by omega, by omega, fun d hd => mapR_at h s (by omega), fun d hd => by rw [hl] at hd ⊢; exact (nx_bd h s hd).1, fun d e hd he hn => nx_inj h s (by omega) (by omega) hn⟩
theorem total_l0 (xs : List Int) (hl : xs.length ≤ 100) (hb : ∀ v ∈ xs, 0 ≤ v ∧ v ≤ 20) : ∀ (d k i : Nat) (a : Int), i + d = xs.length → d < k → 0 ≤ a → a ≤ 20 * i → laws_total.l0 k xs a (i : Int) = some (a + (xs.drop i).sum)
 | 0, k, i, a, hi, hk, h0, h1 => by
  obtain ⟨k, rfl⟩ : ∃ m, k = m + 1 := ⟨k - 1, by omega⟩
  simp only [laws_total.l0]
  rw [if_neg (by omega), List.drop_eq_nil_of_le (by omega)]
  simp
 | d + 1, k, i, a, hi, hk, h0, h1 => by
  obtain ⟨k, rfl⟩ : ∃ m, k = m + 1 := ⟨k - 1, by omega⟩
  have hlt : i < xs.length := by omega
  have hv := hb _ (List.getElem_mem hlt)
  have er : rd xs (i : Int) = xs[i] := by
   unfold rd
   rw [Int.toNat_natCast, List.getD_eq_getElem?_getD, List.getElem?_eq_getElem hlt]
   rfl
  simp only [laws_total.l0]
  rw [if_pos (by omega), if_pos (by omega), er, w_id (a := a + xs[i]) (by omega) (by omega), w_id (a := (i : Int) + 1) (by omega) (by omega), show ((i : Int) + 1) = ((i + 1 : Nat) : Int) by omega, total_l0 xs hl hb d k (i + 1) _ (by omega) (by omega) (by omega) (by omega), List.drop_eq_getElem_cons hlt, List.sum_cons]
  congr 1
  omega
theorem total_f (xs : List Int) (hl : xs.length ≤ 100) (hb : ∀ v ∈ xs, 0 ≤ v ∧ v ≤ 20) (k : Nat) (hk : 200 < k) : laws_total.f k xs = some xs.sum := by
 unfold laws_total.f
 have := total_l0 xs hl hb xs.length k 0 0 (by omega) (by omega) (by omega) (by omega)
 rw [List.drop_zero, Int.zero_add] at this
 exact this
theorem sum_nn : ∀ xs : List Int, (∀ v ∈ xs, 0 ≤ v ∧ v ≤ 20) → 0 ≤ xs.sum
 | [], _ => by simp
 | x :: xs, h => by
  have := sum_nn xs (fun v hv => h v (by simp [hv]))
  have := (h x (by simp)).1
  rw [List.sum_cons]
  omega
/-- A word turned by one. -/
def turn1 (w : List Int) : List Int := w.drop 1 ++ w.take 1
theorem turn_f {w : List Int} (h : cw w = true) (k : Nat) (hk : 1048576 < k) : spec_TurnWord.f k w 1 = some (turn1 w) := by
 have hw := (cw_true h).1
 have hi : isW w = true := by
  unfold cw at h
  simp only [Bool.and_eq_true] at h
  exact h.1.1
 unfold spec_TurnWord.f
 rw [spec_isW w (by omega) k hk, Option.bind_some, if_pos hi]
 unfold spec_l2Turn.f
 have e1 : Int.tmod 1 (w.length : Int) = 1 := by
  rw [Int.tmod_eq_emod_of_nonneg (by omega), Int.emod_eq_of_lt (by omega) (by omega)]
 rw [if_neg (by omega), e1, if_neg (by omega)]
 simp only [Option.bind_some]
 rw [if_pos (by omega), if_pos (by omega), if_pos (by simp; omega), if_pos (by simp; omega)]
 rfl
theorem cw_turn {w : List Int} (h : cw w = true) : cw (turn1 w) = true ∧ (turn1 w).length = w.length ∧ ∀ x, x ∈ turn1 w ↔ x ∈ w := by
 have hw := (cw_true h).1
 cases w with
 | nil => simp at hw
 | cons a r =>
  have e : turn1 (a :: r) = r ++ [a] := rfl
  rw [e]
  have hc : ∀ x, cnt (r ++ [a]) x = cnt (a :: r) x := by
   intro x
   rw [cnt_append, show (a :: r) = [a] ++ r from rfl, cnt_append]
   omega
  have hm : ∀ x, x ∈ r ++ [a] ↔ x ∈ a :: r := by
   intro x
   rw [List.mem_append, List.mem_singleton, List.mem_cons]
   exact Or.comm
  have hl : (r ++ [a]).length = (a :: r).length := by simp
  refine ⟨?_, hl, hm⟩
  unfold cw isW at h ⊢
  simp only [Bool.and_eq_true, List.all_eq_true, decide_eq_true_eq] at h ⊢
  obtain ⟨⟨⟨h1, h2⟩, h3⟩, h4⟩ := h
  exact ⟨⟨⟨fun x hx => h1 x ((hm x).1 hx), by rw [hl]; exact h2⟩, by rw [hl]; exact h3⟩, fun x hx => by rw [hc]; exact h4 x ((hm x).1 hx)⟩
theorem turn1_at {w : List Int} (h2 : 2 ≤ w.length) : ∀ i : Nat, (h1 : i < (turn1 w).length) → ∀ h2 : (i + 1) % w.length < w.length, (turn1 w)[i] = w[(i + 1) % w.length] := by
 intro i h1 h3
 cases w with
 | nil => simp at h2
 | cons a r =>
  have e : turn1 (a :: r) = r ++ [a] := rfl
  have hl : i < r.length + 1 := by simpa [turn1] using h1
  have ei : ∀ (j : Nat) (hj : j < (a :: r).length), (i + 1) % (a :: r).length = j → (a :: r)[(i + 1) % (a :: r).length] = (a :: r)[j] := by
   intro j hj e
   subst e
   rfl
  by_cases c : i < r.length
  ·rw [ei (i + 1) (by simpa using c) (Nat.mod_eq_of_lt (by simpa using c)), List.getElem_cons_succ]
   show (r ++ [a])[i]'(by simpa using hl) = _
   rw [List.getElem_append_left c]
  ·have hc : i = r.length := by omega
   rw [ei 0 (by simp) (by rw [hc, List.length_cons, Nat.mod_self]), List.getElem_cons_zero]
   show (r ++ [a])[i]'(by simpa using hl) = _
   rw [List.getElem_append_right (by omega)]
   simp [hc]
theorem turned_cg {w : List Int} (h : cw w = true) (h10 : w.length ≤ 10) : cgR (turn1 w) = cgR w := by
 obtain ⟨h1, h2, h3⟩ := cw_turn h
 exact turn_cg h h10 h2 h1 h3 (turn1_at (cw_true h).1.1)
theorem j4_ok {w : List Int} (h : cw w = true) (h10 : w.length ≤ 10) (k : Nat) (hk : 1060001 < k) : laws_FnGauss.j4 k w (cgR w) (rowR w) (loopsR w) = some true := by
 obtain ⟨k, rfl⟩ : ∃ m, k = m + 1 := ⟨k - 1, by omega⟩
 obtain ⟨n, ls, C⟩ := chk_of h h10
 have hw := (cw_true h).1
 have hg := genus_le C
 have hlen := C.len
 simp only [laws_FnGauss.j4]
 rw [total_f _ (Nat.le_trans (rowR_len w) (by decide)) (row_bd h) k (by omega), Option.bind_some]
 have hs := row_sum h
 have hn := sum_nn _ (row_bd h)
 rw [if_pos (by rw [Int.tmod_eq_emod_of_nonneg hn]; exact hs), turn_f h k (by omega), Option.bind_some, impl_cg _ (by have := (cw_turn h).2.1; omega) k (by omega), Option.bind_some, if_pos (turned_cg h h10), impl_cg _ (Nat.le_trans (loopsR_len w) (by omega)) k (by omega), Option.bind_some, if_pos (loops_cg h h10), w_id (a := (w.length : Int) / 4) (by omega) (by omega), w_id (a := (w.length : Int) / 4 + 1) (by omega) (by omega)]
 congr 1
 exact decide_eq_true (by omega)
theorem l0_ok {w : List Int} (h : cw w = true) (h10 : w.length ≤ 10) : ∀ (d k i : Nat), i + d = (rowR w).length → 1060010 + 2 * d < k → laws_FnGauss.l0 k w (cgR w) (rowR w) (loopsR w) (i : Int) = some true
 | 0, k, i, hi, hk => by
  obtain ⟨k, rfl⟩ : ∃ m, k = m + 1 + 1 := ⟨k - 2, by omega⟩
  simp only [laws_FnGauss.l0]
  rw [if_neg (by omega)]
  simp only [laws_FnGauss.j3]
  rw [if_neg (by decide)]
  exact j4_ok h h10 k (by omega)
 | d + 1, k, i, hi, hk => by
  obtain ⟨k, rfl⟩ : ∃ m, k = m + 1 + 1 := ⟨k - 2, by omega⟩
  have hlt : i < (rowR w).length := by omega
  have hr := rowR_len w
  simp only [laws_FnGauss.l0]
  rw [if_pos (by omega)]
  simp only [laws_FnGauss.j3]
  by_cases g0 : cgR w = 0
  ·obtain ⟨n, ls, C⟩ := chk_of h h10
   have hv := row_even C g0 _ (List.getElem_mem hlt)
   have er : rd (rowR w) (i : Int) = (rowR w)[i] := by
    unfold rd
    rw [Int.toNat_natCast, List.getD_eq_getElem?_getD, List.getElem?_eq_getElem hlt]
    rfl
   rw [if_pos (by rw [g0]; rfl), if_pos (by omega), if_pos (by omega), er, if_pos (by rw [Int.tmod_eq_emod_of_nonneg hv.2.1]; exact hv.1), w_id (a := (i : Int) + 1) (by omega) (by omega), show ((i : Int) + 1) = ((i + 1 : Nat) : Int) by omega]
   exact l0_ok h h10 d k (i + 1) (by omega) (by omega)
  ·rw [if_neg (by simpa using g0)]
   exact j4_ok h h10 k (by omega)
theorem j1_ok {w : List Int} (h10 : w.length ≤ 10) (k : Nat) (hk : 1060100 < k) : laws_FnGauss.j1 k w (cgR w) (rowR w) (loopsR w) false = some true := by
 obtain ⟨k, rfl⟩ : ∃ m, k = m + 1 := ⟨k - 1, by omega⟩
 simp only [laws_FnGauss.j1]
 rw [if_neg (by decide), spec_cw w (by omega) k (by omega), Option.bind_some]
 by_cases h : cw w = true
 ·rw [if_pos h]
  have := rowR_len w
  exact l0_ok h h10 (rowR w).length k 0 (by omega) (by omega)
 ·rw [if_neg h]
  have e1 : cgR w = -1 := by unfold cgR; rw [if_neg h]
  have e2 : rowR w = [] := by unfold rowR; rw [if_neg h]
  rw [if_pos e1, e2]
  rfl
theorem fc_f (l : List Int) (hl : l.length ≤ 1048576) : laws_FnGauss.f 10000000 l = some true := by
 obtain ⟨w, e1, hw1, hw⟩ := drawCG_ok l hl 10000000 (by omega)
 obtain ⟨a, x, y, e2, ha1, ha⟩ := drawAL_ok l hl 10000000 (by omega)
 obtain ⟨m, s, e3, hm1, hm⟩ := drawCM_ok l hl 10000000 (by omega)
 obtain ⟨d, z, e4, hd1, hd⟩ := drawDC_ok l hl 10000000 (by omega)
 have j0 : ∀ b, b = false → laws_FnGauss.j0 10000000 w (cgR w) d (dropR d z).1 (dropR d z).2 (rowR w) (loopsR w) b = some true := by
  intro b hb
  subst hb
  rw [show (10000000 : Nat) = 9999999 + 1 from rfl]
  simp only [laws_FnGauss.j0]
  rw [if_neg (by decide)]
  unfold dropR
  by_cases c : cw d = true ∧ z ∈ d ∧ d.length ≠ 2
  ·have h2 := (cw_true c.1).1
   obtain ⟨h3, h4⟩ := cw_without c.1 c.2.1 (by omega)
   rw [if_pos c]
   dsimp only
   rw [if_pos rfl, spec_cw _ (by omega) _ (by omega), Option.bind_some, if_pos h3, w_id (by omega) (by omega)]
   have e : (((without d z).length : Int) != (d.length : Int) - 2) = false := bne_eq_false_iff_eq.2 (by omega)
   rw [e]
   exact j1_ok hw _ (by omega)
  ·rw [if_neg c]
   dsimp only
   rw [if_neg (by decide)]
   exact j1_ok hw _ (by omega)
 unfold laws_FnGauss.f laws_big.f
 rw [Option.bind_some, if_neg (by simp; omega), e1, Option.bind_some, impl_cg w (by omega) _ (by omega), Option.bind_some, e2, Option.bind_some, e3, Option.bind_some]
 dsimp only
 rw [impl_cmap m (by omega) s _ (by omega), Option.bind_some, spec_cmap m (by omega) s _ (by omega), Option.bind_some, e4, Option.bind_some]
 dsimp only
 rw [impl_dropC d (by omega) z _ (by omega), Option.bind_some, spec_dropC d (by omega) z _ (by omega), Option.bind_some, impl_row w (by omega) _ (by omega), Option.bind_some, impl_loopsF w (by omega) _ (by omega), Option.bind_some, spec_cg w (by omega) _ (by omega), Option.bind_some, if_pos rfl, impl_linkedA a (by omega) x y _ (by omega), Option.bind_some, spec_linked a (by omega) x y _ (by omega), Option.bind_some, if_neg (by simp), if_neg (by simp), same_f _ (Nat.le_trans (cmapR_len m s) (by decide)) _ (by omega), Option.bind_some, if_pos rfl, if_neg (by simp), same_f _ (Nat.le_trans (dropR_len d z) (by omega)) _ (by omega), Option.bind_some, if_pos rfl, spec_row w (by omega) _ (by omega), Option.bind_some, same_f _ (Nat.le_trans (rowR_len w) (by decide)) _ (by omega), Option.bind_some, if_pos rfl, spec_loopsF w (by omega) _ (by omega), Option.bind_some, same_f _ (Nat.le_trans (loopsR_len w) (by omega)) _ (by omega), Option.bind_some, if_pos rfl, impl_cw w (by omega) _ (by omega), Option.bind_some, spec_cw w (by omega) _ (by omega), Option.bind_some, if_neg (by simp)]
 have hp : impl_IsPlanarWord.f 10000000 w = some (cgR w == 0) := by
  unfold impl_IsPlanarWord.f
  rw [impl_cg w (by omega) _ (by omega), Option.bind_some]
 rw [hp, Option.bind_some, if_neg (by simp), Option.bind_some, impl_linkedA a (by omega) y x _ (by omega), Option.bind_some, if_neg (by rw [linkR_symm x y]; simp)]
 unfold cmapR
 by_cases c : cw m = true ∧ 0 ≤ s ∧ s ≤ 255
 ·obtain ⟨n, ls, C⟩ := chk_of c.1 hm
  obtain ⟨_, ⟨V, hV, cV⟩, _⟩ := map_of C C.nodup C.mem s
  have pm := mapR_pm c.1 s
  have hlen := mapR_len m s
  have h2 := (cw_true c.1).1
  have sm := smap_f pm (by omega) 10000000 (by omega)
  have cl := C.len
  rw [if_pos c]
  dsimp only
  rw [if_pos rfl, sm, Option.bind_some, if_pos rfl]
  unfold spec_CyclesOf.f spec_MapParts.f
  rw [sm, Option.bind_some, if_pos rfl, (cV _ (by omega)).1, Option.bind_some, Option.bind_some, if_pos (by rw [hV, w_id (by omega) (by omega)]; omega), Option.bind_some, if_pos rfl, (parts_one c.1 s _ (by omega)).1, Option.bind_some, Option.bind_some]
  exact j0 _ rfl
 ·rw [if_neg c]
  dsimp only
  rw [if_neg (by decide)]
  exact j0 _ rfl
theorem FnGauss : laws_FnGauss.Pure := by
 intro l _ _ _
 by_cases hl : l.length ≤ 1048576
 ·exact ⟨_, fc_f l hl⟩
 ·refine ⟨1, ?_⟩
  unfold laws_FnGauss.f laws_big.f
  rw [Option.bind_some, if_pos (by simp; omega)]
end Go.Proofs.Ytkmjcdlhlhefdaa.Pure
