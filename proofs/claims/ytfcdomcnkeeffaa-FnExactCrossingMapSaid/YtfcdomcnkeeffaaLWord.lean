/- What the program's and the reference's IsWord, IsCrossingWord and their counts compute; no condition but the number of rounds and the length. -/
import Derived.Test.YtfcdomcnkeeffaaPx0
import Derived.Test.YtfcdomcnkeeffaaPx1
import Derived.Test.YtfcdomcnkeeffaaPx2
import Derived.Test.YtfcdomcnkeeffaaPx3
import Derived.Test.YtfcdomcnkeeffaaPx4
import Derived.Test.YtfcdomcnkeeffaaLIn
namespace Go.Proofs.Ytfcdomcnkeeffaa.L
open Go.RowKit Go.Proofs.Ytfcdomcnkeeffaa.P Go.Proofs.Ytfcdomcnkeeffaa.Help Go.Proofs.YtfcdomcnkeeffaaW.PrintWords
set_option linter.unusedVariables false
set_option linter.unusedSimpArgs false

theorem l3AbsW {a : Int} (h0 : -8 ≤ a) (h1 : a ≤ 8) : spec_l3Abs.f a = some (a.natAbs : Int) := by
  unfold spec_l3Abs.f spec_l1Max.f
  rw [w_id (by omega) (by omega)]
  by_cases h : a > -a
  · rw [if_pos h]; simp only [Option.bind_some]; congr 1; omega
  · rw [if_neg h]; simp only [Option.bind_some]; congr 1; omega
theorem sizeW {a : Int} (h0 : -8 ≤ a) (h1 : a ≤ 8) : impl_size.f a = some (a.natAbs : Int) := by
  unfold impl_size.f
  rw [w_id (by omega) (by omega)]
  congr 1
  unfold mx
  split <;> omega
def letB (x : Int) : Bool := decide (x ≠ 0 ∧ -8 ≤ x ∧ x ≤ 8)
theorem letB_true {x : Int} (h : letB x = true) : x ≠ 0 ∧ -8 ≤ x ∧ x ≤ 8 := of_decide_eq_true h
theorem spec_letter (x : Int) : spec_l2Letter.f x = some (letB x) := by
  unfold spec_l2Letter.f letB
  rw [l1In_eq, l1In_eq, Option.bind_some, Option.bind_some]
  by_cases h : 1 ≤ x ∧ x ≤ 8
  · rw [if_pos (decide_eq_true h)]
    congr 1
    symm
    rw [decide_eq_true_iff]
    omega
  · rw [if_neg (by simpa using h)]
    congr 1
    rw [decide_eq_decide]
    omega
theorem impl_letter (x : Int) : impl_isLetter.f x = some (letB x) := by
  unfold impl_isLetter.f letB
  rw [within_eq, Option.bind_some]
  by_cases h : x = 0
  · rw [if_pos h]; simp [h]
  · rw [if_neg h]
    simp [h]
/-- A word. -/
def isW (w : List Int) : Bool := w.all letB && decide (w.length ≤ 24)
theorem spec_isW_l0 (xs : List Int) (hx : xs.length ≤ 1000000000000) : ∀ (d k i : Nat), i + d = xs.length → d < k → spec_IsWord.l0 k xs (i : Int) = some ((xs.drop i).all letB && decide (xs.length ≤ 24)) := by
  intro d
  induction d with
  | zero =>
    intro k i hi hk
    obtain ⟨k, rfl⟩ : ∃ m, k = m + 1 := ⟨k - 1, by omega⟩
    simp only [spec_IsWord.l0]
    rw [if_neg (by omega), List.drop_of_length_le (by omega)]
    simp
    omega
  | succ d ih =>
    intro k i hi hk
    obtain ⟨k, rfl⟩ : ∃ m, k = m + 1 := ⟨k - 1, by omega⟩
    have hlt : i < xs.length := by omega
    simp only [spec_IsWord.l0]
    rw [if_pos (by omega), if_pos (by omega), spec_letter, Option.bind_some, w_id (by omega) (by omega), show ((i : Int) + 1) = ((i + 1 : Nat) : Int) by omega, ih k (i + 1) (by omega) (by omega), List.drop_eq_getElem_cons hlt, List.all_cons, rd_nat xs i hlt]
    by_cases h : letB xs[i] = true <;> simp [h]
theorem impl_isW_l0 (xs : List Int) (hx : xs.length ≤ 1000000000000) : ∀ (d k i : Nat), i + d = xs.length → d < k → impl_IsWord.l0 k xs xs (xs.length : Int) (i : Int) = some ((xs.drop i).all letB && decide (xs.length ≤ 24)) := by
  intro d
  induction d with
  | zero =>
    intro k i hi hk
    obtain ⟨k, rfl⟩ : ∃ m, k = m + 1 := ⟨k - 1, by omega⟩
    simp only [impl_IsWord.l0]
    rw [if_neg (by omega), List.drop_of_length_le (by omega)]
    simp
    omega
  | succ d ih =>
    intro k i hi hk
    obtain ⟨k, rfl⟩ : ∃ m, k = m + 1 := ⟨k - 1, by omega⟩
    have hlt : i < xs.length := by omega
    simp only [impl_IsWord.l0]
    rw [if_pos (by omega), if_pos (by omega), if_pos (by omega), impl_letter, Option.bind_some, w_id (by omega) (by omega), show ((i : Int) + 1) = ((i + 1 : Nat) : Int) by omega, ih k (i + 1) (by omega) (by omega), List.drop_eq_getElem_cons hlt, List.all_cons, rd_nat xs i hlt]
    by_cases h : letB xs[i] = true <;> simp [h]
theorem spec_isW (xs : List Int) (hx : xs.length ≤ 1048576) (k : Nat) (hk : 1048576 < k) : spec_IsWord.f k xs = some (isW xs) := by
  unfold spec_IsWord.f
  have := spec_isW_l0 xs (by omega) xs.length k 0 (by omega) (by omega)
  rw [List.drop_zero] at this
  exact this
theorem impl_isW (xs : List Int) (hx : xs.length ≤ 1048576) (k : Nat) (hk : 1048576 < k) : impl_IsWord.f k xs = some (isW xs) := by
  unfold impl_IsWord.f
  have := impl_isW_l0 xs (by omega) xs.length k 0 (by omega) (by omega)
  rw [List.drop_zero] at this
  exact this
theorem isW_true {w : List Int} (h : isW w = true) : (∀ x ∈ w, x ≠ 0 ∧ -8 ≤ x ∧ x ≤ 8) ∧ w.length ≤ 24 := by
  unfold isW at h
  rw [Bool.and_eq_true, List.all_eq_true, decide_eq_true_iff] at h
  exact ⟨fun x hx => letB_true (h.1 x hx), h.2⟩
/-- How often a letter occurs, counting inverses. -/
def cnt : List Int → Int → Int
  | [], _ => 0
  | y :: ys, x => (if (y.natAbs : Int) = x then 1 else 0) + cnt ys x
theorem cnt_bd : ∀ (w : List Int) (x : Int), 0 ≤ cnt w x ∧ cnt w x ≤ w.length
  | [], _ => by simp [cnt]
  | y :: ys, x => by
    have := cnt_bd ys x
    rw [cnt, List.length_cons]
    split <;> omega
theorem cnt_append : ∀ (v w : List Int) (x : Int), cnt (v ++ w) x = cnt v x + cnt w x
  | [], w, x => by simp [cnt]
  | y :: ys, w, x => by
    rw [List.cons_append, cnt, cnt, cnt_append ys w x]
    omega
theorem cnt_ne : ∀ (w : List Int) (x : Int), cnt w x ≠ 0 ↔ ∃ y ∈ w, (y.natAbs : Int) = x
  | [], x => by simp [cnt]
  | y :: ys, x => by
    have ih := cnt_ne ys x
    have hb := cnt_bd ys x
    rw [cnt]
    by_cases h : (y.natAbs : Int) = x
    · rw [if_pos h]
      constructor
      · intro _; exact ⟨y, List.mem_cons_self, h⟩
      · intro _; omega
    · rw [if_neg h, Int.zero_add, ih]
      constructor
      · rintro ⟨z, hz, e⟩; exact ⟨z, List.mem_cons_of_mem _ hz, e⟩
      · rintro ⟨z, hz, e⟩
        rcases List.mem_cons.1 hz with rfl | hz
        · exact absurd e h
        · exact ⟨z, hz, e⟩
theorem spec_count_l0 (xs : List Int) (hx : xs.length ≤ 1000000) (hl : ∀ y ∈ xs, -8 ≤ y ∧ y ≤ 8) (x : Int) : ∀ (d k i : Nat) (n : Int), i + d = xs.length → d < k → 0 ≤ n → n ≤ 1000000000 - d → spec_l5Count.l0 k xs x n (i : Int) = some (n + cnt (xs.drop i) x) := by
  intro d
  induction d with
  | zero =>
    intro k i n hi hk h0 h1
    obtain ⟨k, rfl⟩ : ∃ m, k = m + 1 := ⟨k - 1, by omega⟩
    simp only [spec_l5Count.l0]
    rw [if_neg (by omega), List.drop_of_length_le (by omega)]
    simp [cnt]
  | succ d ih =>
    intro k i n hi hk h0 h1
    obtain ⟨k, rfl⟩ : ∃ m, k = m + 1 := ⟨k - 1, by omega⟩
    have hlt : i < xs.length := by omega
    have hb := hl xs[i] (List.getElem_mem hlt)
    simp only [spec_l5Count.l0]
    rw [if_pos (by omega), if_pos (by omega), rd_nat xs i hlt, l3AbsW hb.1 hb.2, Option.bind_some, List.drop_eq_getElem_cons hlt, cnt]
    unfold spec_l1Bit.f
    by_cases h : (xs[i].natAbs : Int) = x
    · rw [if_pos (by simpa using h), if_pos h, Option.bind_some, w_id (a := n + 1) (by omega) (by omega), w_id (by omega) (by omega), show ((i : Int) + 1) = ((i + 1 : Nat) : Int) by omega, ih k (i + 1) (n + 1) (by omega) (by omega) (by omega) (by omega)]
      congr 1
      omega
    · rw [if_neg (by simpa using h), if_neg h, Option.bind_some, w_id (a := n + 0) (by omega) (by omega), w_id (by omega) (by omega), show ((i : Int) + 1) = ((i + 1 : Nat) : Int) by omega, ih k (i + 1) (n + 0) (by omega) (by omega) (by omega) (by omega)]
      congr 1
      omega
theorem spec_count (xs : List Int) (hx : xs.length ≤ 24) (hl : ∀ y ∈ xs, -8 ≤ y ∧ y ≤ 8) (x : Int) (k : Nat) (hk : 24 < k) : spec_l5Count.f k xs x = some (cnt xs x) := by
  unfold spec_l5Count.f
  have := spec_count_l0 xs (by omega) hl x xs.length k 0 0 (by omega) (by omega) (by omega) (by omega)
  rw [List.drop_zero, Int.zero_add] at this
  exact this
/-- How often each letter from 0 to 8 occurs. -/
def cl (w : List Int) : List Int := (List.range 9).map fun (i : Nat) => cnt w (i : Int)
theorem cl_len (w : List Int) : (cl w).length = 9 := by simp [cl]
theorem cl_get (w : List Int) (i : Nat) (h : i < (cl w).length) : (cl w)[i] = cnt w (i : Int) := by simp [cl]
theorem cl_step (w : List Int) (y : Int) (hy : -8 ≤ y ∧ y ≤ 8) : (cl w).set y.natAbs (cnt w (y.natAbs : Int) + 1) = cl (w ++ [y]) := by
  apply List.ext_getElem
  · rw [List.length_set, cl_len, cl_len]
  · intro i h1 h2
    rw [List.getElem_set, cl_get, cl_get, cnt_append]
    simp only [cnt]
    by_cases h : y.natAbs = i
    · rw [if_pos h, if_pos (by omega), h]
      omega
    · rw [if_neg h, if_neg (by omega)]
      omega
theorem letterCounts_l1 (w : List Int) (hx : w.length ≤ 1000000) (hl : ∀ y ∈ w, -8 ≤ y ∧ y ≤ 8) : ∀ (d k i : Nat), i + d = w.length → d + 3 < k → impl_letterCounts.l1 k (cl (w.take i)) [w] 1 0 w (w.length : Int) (i : Int) = some (cl w) := by
  intro d
  induction d with
  | zero =>
    intro k i hi hk
    obtain ⟨k, rfl⟩ : ∃ m, k = m + 2 := ⟨k - 2, by omega⟩
    simp only [impl_letterCounts.l1, impl_letterCounts.l0]
    rw [if_neg (by omega), w_id (by omega) (by omega), if_neg (by omega), List.take_of_length_le (by omega)]
  | succ d ih =>
    intro k i hi hk
    obtain ⟨k, rfl⟩ : ∃ m, k = m + 1 := ⟨k - 1, by omega⟩
    have hlt : i < w.length := by omega
    have hb := hl w[i] (List.getElem_mem hlt)
    have hr : rd (cl (w.take i)) (w[i].natAbs : Int) = cnt (w.take i) (w[i].natAbs : Int) := by
      rw [rd_nat _ _ (by rw [cl_len]; omega), cl_get]
    have hcb := cnt_bd (w.take i) (w[i].natAbs : Int)
    rw [List.length_take] at hcb
    simp only [impl_letterCounts.l1]
    rw [if_pos (by omega), if_pos (by omega), if_pos (by omega), rd_nat w i hlt, sizeW hb.1 hb.2, Option.bind_some, cl_len, if_pos (by omega), if_pos (by omega), hr, Int.toNat_natCast, w_id (a := cnt (w.take i) (w[i].natAbs : Int) + 1) (by omega) (by omega), cl_step _ _ hb, w_id (by omega) (by omega), show ((i : Int) + 1) = ((i + 1 : Nat) : Int) by omega]
    have := ih k (i + 1) (by omega) (by omega)
    rw [List.take_succ_eq_append_getElem hlt] at this
    exact this
theorem crossings_eq (w : List Int) (hx : w.length ≤ 24) (hl : ∀ y ∈ w, -8 ≤ y ∧ y ≤ 8) (k : Nat) (hk : 40 < k) : impl_crossings.f k w = some (cl w) := by
  unfold impl_crossings.f impl_letterCounts.f
  rw [if_pos (by decide)]
  obtain ⟨k, rfl⟩ : ∃ m, k = m + 1 := ⟨k - 1, by omega⟩
  simp only [impl_letterCounts.l0, List.length_singleton]
  rw [if_pos (by decide), if_pos (by decide), if_pos (by decide)]
  have h : impl_letterCounts.l1 k (cl (w.take 0)) [w] 1 0 w (w.length : Int) 0 = some (cl w) := letterCounts_l1 w (by omega) hl w.length k 0 (by omega) (by omega)
  rw [show rd_L1 [w] 0 = w from rfl]
  rw [show (List.replicate 9 (0 : Int)) = cl (w.take 0) from by rw [List.take_zero]; rfl]
  rw [show (((1 : Nat) : Int)) = 1 from rfl, h]
  rfl
/-- A crossing word. -/
def cw (w : List Int) : Bool := isW w && decide (2 ≤ w.length ∧ w.length ≤ 12) && w.all (fun x => decide (1 ≤ x ∧ cnt w x = 2))
theorem cw_true {w : List Int} (h : cw w = true) : (2 ≤ w.length ∧ w.length ≤ 12) ∧ ∀ x ∈ w, (1 ≤ x ∧ x ≤ 8) ∧ cnt w x = 2 := by
  unfold cw at h
  rw [Bool.and_eq_true, Bool.and_eq_true, decide_eq_true_iff, List.all_eq_true] at h
  obtain ⟨⟨h1, h2⟩, h3⟩ := h
  obtain ⟨h4, _⟩ := isW_true h1
  refine ⟨h2, fun x hx => ?_⟩
  have := of_decide_eq_true (h3 x hx)
  have := h4 x hx
  omega
theorem cw_small {w : List Int} (h : cw w = true) : ∀ x ∈ w, -8 ≤ x ∧ x ≤ 8 := fun x hx => by have := (cw_true h).2 x hx; omega
theorem spec_cw_l0 (w : List Int) (hx : w.length ≤ 24) (hl : ∀ y ∈ w, -8 ≤ y ∧ y ≤ 8) : ∀ (d k i : Nat), i + d = w.length → d + 30 < k → spec_IsCrossingWord.l0 k w (i : Int) = some ((w.drop i).all (fun x => decide (1 ≤ x ∧ cnt w x = 2))) := by
  intro d
  induction d with
  | zero =>
    intro k i hi hk
    obtain ⟨k, rfl⟩ : ∃ m, k = m + 1 := ⟨k - 1, by omega⟩
    simp only [spec_IsCrossingWord.l0]
    rw [if_neg (by omega), List.drop_of_length_le (by omega)]
    rfl
  | succ d ih =>
    intro k i hi hk
    obtain ⟨k, rfl⟩ : ∃ m, k = m + 1 := ⟨k - 1, by omega⟩
    have hlt : i < w.length := by omega
    simp only [spec_IsCrossingWord.l0]
    rw [if_pos (by omega), if_pos (by omega), rd_nat w i hlt, List.drop_eq_getElem_cons hlt, List.all_cons, spec_count w hx hl _ k (by omega), Option.bind_some]
    by_cases h : w[i] < 1
    · rw [if_pos h, decide_eq_false (by omega)]
      rfl
    · rw [if_neg h]
      by_cases h2 : cnt w w[i] = 2
      · rw [if_pos h2, decide_eq_true ⟨by omega, h2⟩, w_id (by omega) (by omega), show ((i : Int) + 1) = ((i + 1 : Nat) : Int) by omega, ih k (i + 1) (by omega) (by omega)]
        rfl
      · rw [if_neg h2, decide_eq_false (fun h => h2 h.2)]
        rfl
theorem spec_cw (w : List Int) (hx : w.length ≤ 1048576) (k : Nat) (hk : 1048577 < k) : spec_IsCrossingWord.f k w = some (cw w) := by
  obtain ⟨k, rfl⟩ : ∃ m, k = m + 1 := ⟨k - 1, by omega⟩
  unfold spec_IsCrossingWord.f cw
  rw [spec_isW w hx (k + 1) (by omega), l1In_eq, Option.bind_some, Option.bind_some]
  simp only [spec_IsCrossingWord.j0, if_true]
  by_cases h : isW w = true
  · rw [if_pos h]
    obtain ⟨h1, h2⟩ := isW_true h
    by_cases h3 : 2 ≤ w.length ∧ w.length ≤ 12
    · rw [if_neg (by simp; omega)]
      have := spec_cw_l0 w h2 (fun y hy => by have := h1 y hy; omega) w.length k 0 (by omega) (by omega)
      rw [List.drop_zero] at this
      rw [show ((0 : Int)) = ((0 : Nat) : Int) from rfl, this, h, decide_eq_true h3]
      rfl
    · rw [if_pos (by simp; omega), decide_eq_false h3]
      simp
  · rw [if_neg h, Bool.eq_false_iff.2 h]
    rfl
theorem impl_cw_l1 (w : List Int) (hx : w.length ≤ 24) : ∀ (d k i : Nat), i + d = w.length → d < k → impl_IsCrossingWord.l1 k w (w.length : Int) (i : Int) = some ((w.drop i).all (fun x => decide (1 ≤ x))) := by
  intro d
  induction d with
  | zero =>
    intro k i hi hk
    obtain ⟨k, rfl⟩ : ∃ m, k = m + 1 := ⟨k - 1, by omega⟩
    simp only [impl_IsCrossingWord.l1]
    rw [if_neg (by omega), List.drop_of_length_le (by omega)]
    rfl
  | succ d ih =>
    intro k i hi hk
    obtain ⟨k, rfl⟩ : ∃ m, k = m + 1 := ⟨k - 1, by omega⟩
    have hlt : i < w.length := by omega
    simp only [impl_IsCrossingWord.l1]
    rw [if_pos (by omega), if_pos (by omega), if_pos (by omega), rd_nat w i hlt, List.drop_eq_getElem_cons hlt, List.all_cons]
    by_cases h : w[i] < 1
    · rw [if_pos h, decide_eq_false (by omega)]
      rfl
    · rw [if_neg h, decide_eq_true (by omega), w_id (by omega) (by omega), show ((i : Int) + 1) = ((i + 1 : Nat) : Int) by omega, ih k (i + 1) (by omega) (by omega)]
      rfl
theorem impl_cw_l0 (w : List Int) (hx : w.length ≤ 24) : ∀ (d k i : Nat), i + d = 9 → d + 30 < k → impl_IsCrossingWord.l0 k w (cl w) 9 (i : Int) = some (((cl w).drop i).all (fun c => decide (c = 0 ∨ c = 2)) && w.all (fun x => decide (1 ≤ x))) := by
  intro d
  induction d with
  | zero =>
    intro k i hi hk
    obtain ⟨k, rfl⟩ : ∃ m, k = m + 1 := ⟨k - 1, by omega⟩
    simp only [impl_IsCrossingWord.l0]
    rw [if_neg (by omega), List.drop_of_length_le (by rw [cl_len]; omega)]
    have := impl_cw_l1 w hx w.length k 0 (by omega) (by omega)
    rw [List.drop_zero] at this
    rw [show ((0 : Int)) = ((0 : Nat) : Int) from rfl, this]
    rfl
  | succ d ih =>
    intro k i hi hk
    obtain ⟨k, rfl⟩ : ∃ m, k = m + 1 := ⟨k - 1, by omega⟩
    have hlt : i < (cl w).length := by rw [cl_len]; omega
    simp only [impl_IsCrossingWord.l0]
    rw [if_pos (by omega), if_pos (by omega), if_pos (by rw [cl_len]; omega), rd_nat _ i hlt, List.drop_eq_getElem_cons hlt, List.all_cons, w_id (by omega) (by omega), show ((i : Int) + 1) = ((i + 1 : Nat) : Int) by omega, ih k (i + 1) (by omega) (by omega)]
    by_cases h : (cl w)[i] = 0
    · rw [if_pos h, decide_eq_true (.inl h)]
      rfl
    · rw [if_neg h]
      by_cases h2 : (cl w)[i] = 2
      · rw [if_pos h2, decide_eq_true (.inr h2)]
        rfl
      · rw [if_neg h2, decide_eq_false (by omega)]
        rfl
theorem cw_iff (w : List Int) (hw : ∀ x ∈ w, x ≠ 0 ∧ -8 ≤ x ∧ x ≤ 8) : ((cl w).all (fun c => decide (c = 0 ∨ c = 2)) && w.all (fun x => decide (1 ≤ x))) = w.all (fun x => decide (1 ≤ x ∧ cnt w x = 2)) := by
  rw [Bool.eq_iff_iff, Bool.and_eq_true, List.all_eq_true, List.all_eq_true, List.all_eq_true]
  constructor
  · rintro ⟨h1, h2⟩ x hx
    have h3 := of_decide_eq_true (h2 x hx)
    have h4 := hw x hx
    have h5 : cnt w x ∈ cl w := by
      unfold cl
      rw [List.mem_map]
      exact ⟨x.toNat, List.mem_range.2 (by omega), by rw [Int.toNat_of_nonneg (by omega)]⟩
    have h6 := of_decide_eq_true (h1 _ h5)
    have h7 := (cnt_ne w x).2 ⟨x, hx, by omega⟩
    exact decide_eq_true (by omega)
  · intro h
    have h1 : ∀ x ∈ w, 1 ≤ x ∧ cnt w x = 2 := fun x hx => of_decide_eq_true (h x hx)
    refine ⟨fun c hc => ?_, fun x hx => decide_eq_true (h1 x hx).1⟩
    unfold cl at hc
    obtain ⟨i, _, rfl⟩ := List.mem_map.1 hc
    refine decide_eq_true ?_
    by_cases h0 : cnt w (i : Int) = 0
    · exact .inl h0
    · obtain ⟨y, hy, e⟩ := (cnt_ne w _).1 h0
      have := h1 y hy
      have e2 : y = (i : Int) := by omega
      rw [← e2]
      exact .inr this.2
theorem impl_cw (w : List Int) (hx : w.length ≤ 1048576) (k : Nat) (hk : 1048577 < k) : impl_IsCrossingWord.f k w = some (cw w) := by
  obtain ⟨k, rfl⟩ : ∃ m, k = m + 1 := ⟨k - 1, by omega⟩
  unfold impl_IsCrossingWord.f cw
  rw [impl_isW w hx (k + 1) (by omega), within_eq, Option.bind_some, Option.bind_some]
  simp only [impl_IsCrossingWord.j0, if_true]
  by_cases h : isW w = true
  · rw [if_pos h]
    obtain ⟨h1, h2⟩ := isW_true h
    by_cases h3 : 2 ≤ w.length ∧ w.length ≤ 12
    · rw [if_neg (by simp; omega), crossings_eq w h2 (fun y hy => by have := h1 y hy; omega) k (by omega), Option.bind_some, cl_len]
      have := impl_cw_l0 w h2 9 k 0 (by omega) (by omega)
      rw [List.drop_zero, cw_iff w h1] at this
      rw [show ((0 : Int)) = ((0 : Nat) : Int) from rfl, show (((9 : Nat) : Int)) = 9 from rfl, this, h, decide_eq_true h3]
      rfl
    · rw [if_pos (by simp; omega), decide_eq_false h3]
      simp
  · rw [if_neg h, Bool.eq_false_iff.2 h]
    rfl
end Go.Proofs.Ytfcdomcnkeeffaa.L
