/- What the program's and the reference's OrderOf compute; no condition but the number of rounds. -/
import Derived.Test.YtjmifldndjkmpaaPx4
import Derived.Test.YtjmifldndjkmpaaPx8
import Derived.Test.YtjmifldndjkmpaaPx9
import Derived.Test.YtjmifldndjkmpaaHelp
import Derived.Test.YtjmifldndjkmpaaLMat
namespace Go.Proofs.Ytjmifldndjkmpaa.L
open Go.RowKit Go.Proofs.Ytjmifldndjkmpaa.P Go.Proofs.Ytjmifldndjkmpaa.Help Go.Proofs.YtjmifldndjkmpaaW.PrintWords
set_option linter.unusedVariables false
set_option linter.unusedSimpArgs false

def bIdent : ByteArray := ⟨#[105, 100, 101, 110, 116, 105, 116, 121]⟩
def bPeriod : ByteArray := ⟨#[112, 101, 114, 105, 111, 100, 105, 99]⟩
def bTwist : ByteArray := ⟨#[116, 119, 105, 115, 116]⟩
def bStretch : ByteArray := ⟨#[115, 116, 114, 101, 116, 99, 104]⟩
theorem toList_loop (s : ByteArray) : ∀ (n i : Nat) (r : List UInt8), i + n = s.size → ByteArray.toList.loop s i r = r.reverse ++ s.data.toList.drop i := by
  intro n
  induction n with
  | zero =>
    intro i r h
    unfold ByteArray.toList.loop
    rw [if_neg (by omega), List.drop_of_length_le (by rw [data_length]; omega), List.append_nil]
  | succ n ih =>
    intro i r h
    have hi : i < s.size := by omega
    have hl : i < s.data.toList.length := by rw [data_length]; exact hi
    unfold ByteArray.toList.loop
    rw [if_pos hi, ih (i + 1) _ (by omega), List.reverse_cons, List.append_assoc, List.drop_eq_getElem_cons hl]
    congr 1
    have : s.get! i = s.data.toList[i] := by
      simp only [ByteArray.get!, Array.getElem_toList]
      exact getElem!_pos s.data i (by simpa using hl)
    rw [this]
    rfl
theorem toList_data (s : ByteArray) : s.toList = s.data.toList := by
  unfold ByteArray.toList
  rw [toList_loop s s.size 0 [] (by omega)]
  simp
theorem spec_ord_step {k : Nat} {n a b c d p q r s p' q' r' s' : Int} (hn : 0 ≤ n ∧ n ≤ 6) (ha : -1000 ≤ a ∧ a ≤ 1000) (hb : -1000 ≤ b ∧ b ≤ 1000) (hc : -1000 ≤ c ∧ c ≤ 1000) (hd : -1000 ≤ d ∧ d ≤ 1000) (hp : -1000 ≤ p ∧ p ≤ 1000) (hq : -1000 ≤ q ∧ q ≤ 1000) (hr : -1000 ≤ r ∧ r ≤ 1000) (hs : -1000 ≤ s ∧ s ≤ 1000)
    (hne : ¬ (p = 1 ∧ q = 0 ∧ r = 0)) (e1 : p * a + q * c = p') (e2 : p * b + q * d = q') (e3 : r * a + s * c = r') (e4 : r * b + s * d = s') :
    spec_OrderOf.l0 (k + 1) n a b c d p q r s = spec_OrderOf.l0 k (n + 1) a b c d p' q' r' s' := by
  conv => lhs; unfold spec_OrderOf.l0
  rw [spec_prod hp hq hr hs ha hb hc hd, e1, e2, e3, e4, w_id (a := n + 1) (by omega) (by omega), if_pos hn.2]
  simp only [Option.bind_some]
  by_cases h1 : p = 1
  · rw [if_pos h1]
    by_cases h2 : q = 0
    · rw [if_pos h2, if_neg (fun h3 => hne ⟨h1, h2, h3⟩)]
    · rw [if_neg h2]
  · rw [if_neg h1]
theorem spec_ord_end {k : Nat} {n a b c d s : Int} (hn : n ≤ 6) : spec_OrderOf.l0 (k + 1) n a b c d 1 0 0 s = some n := by
  unfold spec_OrderOf.l0
  rw [if_pos hn, if_pos rfl, if_pos rfl, if_pos rfl]
theorem impl_ord_step {k : Nat} {n a b c d p q r s p' q' r' s' : Int} (hk : 5 < k) (hn : 0 ≤ n ∧ n ≤ 12) (hm : isM a b c d = true) (hp : isM p q r s = true) (hp' : isM p' q' r' s' = true)
    (hne : ¬ (p = 1 ∧ q = 0 ∧ r = 0 ∧ s = 1)) (e1 : p * a + q * c = p') (e2 : p * b + q * d = q') (e3 : r * a + s * c = r') (e4 : r * b + s * d = s') :
    impl_OrderOf.l0 (k + 1) n a b c d p q r s = impl_OrderOf.l0 k (n + 1) a b c d p' q' r' s' := by
  conv => lhs; unfold impl_OrderOf.l0
  unfold impl_one.f
  have ht : timesR p q r s a b c d = (p', q', r', s', true) := by
    unfold timesR
    rw [e1, e2, e3, e4, if_pos ⟨hp, hm, hp'⟩]
  rw [impl_times p q r s a b c d k hk, ht, w_id (a := n + 1) (by omega) (by omega), if_pos hn.2]
  simp only [Option.bind_some, Bool.and_eq_true, beq_iff_eq]
  rw [if_neg hne, if_pos trivial]
theorem impl_ord_end {k : Nat} {n a b c d : Int} (hn : n ≤ 12) : impl_OrderOf.l0 (k + 1) n a b c d 1 0 0 1 = some n := by
  unfold impl_OrderOf.l0 impl_one.f
  rw [if_pos hn]
  simp
theorem mkM {a b c d : Int} (ha : -1000 ≤ a ∧ a ≤ 1000) (hb : -1000 ≤ b ∧ b ≤ 1000) (hc : -1000 ≤ c ∧ c ≤ 1000) (hd : -1000 ≤ d ∧ d ≤ 1000) (h : a * d - b * c = 1) : isM a b c d = true := decide_eq_true ⟨ha, hb, hc, hd, h⟩
/-- How often a matrix has to be done to change nothing. -/
def ordR (a b c d : Int) : Int :=
  if isM a b c d = true then
    if b = 0 ∧ c = 0 then (if a = 1 then 1 else 2)
    else if a + d = 0 then 4 else if a + d = 1 then 6 else if a + d = -1 then 3 else 0
  else -1
theorem spec_loop (a b c d : Int) (k : Nat) (hk : 10 < k) (h : isM a b c d = true) (hk2 : (b = 0 ∧ c = 0) ∨ (-1 ≤ a + d ∧ a + d ≤ 1)) : spec_OrderOf.l0 k 1 a b c d a b c d = some (ordR a b c d) := by
  obtain ⟨k, rfl⟩ : ∃ m, k = m + 7 := ⟨k - 7, by omega⟩
  obtain ⟨ha, hb, hc, hd, hdet⟩ := isM_true h
  unfold ordR
  rw [if_pos h]
  by_cases h0 : b = 0 ∧ c = 0
  · rw [if_pos h0]
    obtain ⟨rfl, rfl⟩ := h0
    have h1 : a * d = 1 := by simpa using hdet
    rcases unit_of h1 with rfl | rfl
    · obtain rfl : d = 1 := by omega
      exact spec_ord_end (by decide)
    · obtain rfl : d = -1 := by omega
      rw [spec_ord_step (p' := 1) (q' := 0) (r' := 0) (s' := 1) (by decide) (by decide) (by decide) (by decide) (by decide) (by decide) (by decide) (by decide) (by decide) (by decide) (by decide) (by decide) (by decide) (by decide)]
      exact spec_ord_end (by decide)
  · rw [if_neg h0]
    have ht : a + d = 0 ∨ a + d = 1 ∨ a + d = -1 := by omega
    rcases ht with ht | ht | ht
    · obtain rfl : d = -a := by omega
      have hbc : b * c = -(a * a) - 1 := by grind
      rw [if_pos ht]
      rw [spec_ord_step (p' := -1) (q' := 0) (r' := 0) (s' := -1) (by decide) ha hb hc hd ha hb hc hd (by omega) (by grind) (by grind) (by grind) (by grind),
        spec_ord_step (p' := -a) (q' := -b) (r' := -c) (s' := a) (by decide) ha hb hc hd (by decide) (by decide) (by decide) (by decide) (by decide) (by grind) (by grind) (by grind) (by grind),
        spec_ord_step (p' := 1) (q' := 0) (r' := 0) (s' := 1) (by decide) ha hb hc hd (by omega) (by omega) (by omega) (by omega) (by omega) (by grind) (by grind) (by grind) (by grind)]
      exact spec_ord_end (by decide)
    · obtain rfl : d = 1 - a := by omega
      have hbc : b * c = a - a * a - 1 := by grind
      rw [if_neg (by omega), if_pos ht]
      rw [spec_ord_step (p' := a - 1) (q' := b) (r' := c) (s' := -a) (by decide) ha hb hc hd ha hb hc hd (by omega) (by grind) (by grind) (by grind) (by grind),
        spec_ord_step (p' := -1) (q' := 0) (r' := 0) (s' := -1) (by decide) ha hb hc hd (by omega) (by omega) (by omega) (by omega) (by omega) (by grind) (by grind) (by grind) (by grind),
        spec_ord_step (p' := -a) (q' := -b) (r' := -c) (s' := a - 1) (by decide) ha hb hc hd (by decide) (by decide) (by decide) (by decide) (by decide) (by grind) (by grind) (by grind) (by grind),
        spec_ord_step (p' := 1 - a) (q' := -b) (r' := -c) (s' := a) (by decide) ha hb hc hd (by omega) (by omega) (by omega) (by omega) (by omega) (by grind) (by grind) (by grind) (by grind),
        spec_ord_step (p' := 1) (q' := 0) (r' := 0) (s' := 1) (by decide) ha hb hc hd (by omega) (by omega) (by omega) (by omega) (by omega) (by grind) (by grind) (by grind) (by grind)]
      exact spec_ord_end (by decide)
    · obtain rfl : d = -1 - a := by omega
      have hbc : b * c = -a - a * a - 1 := by grind
      rw [if_neg (by omega), if_neg (by omega), if_pos ht]
      rw [spec_ord_step (p' := -1 - a) (q' := -b) (r' := -c) (s' := a) (by decide) ha hb hc hd ha hb hc hd (by omega) (by grind) (by grind) (by grind) (by grind),
        spec_ord_step (p' := 1) (q' := 0) (r' := 0) (s' := 1) (by decide) ha hb hc hd (by omega) (by omega) (by omega) (by omega) (by omega) (by grind) (by grind) (by grind) (by grind)]
      exact spec_ord_end (by decide)
theorem impl_loop (a b c d : Int) (k : Nat) (hk : 20 < k) (h : isM a b c d = true) (hk2 : (b = 0 ∧ c = 0) ∨ (-1 ≤ a + d ∧ a + d ≤ 1)) : impl_OrderOf.l0 k 1 a b c d a b c d = some (ordR a b c d) := by
  obtain ⟨k, rfl⟩ : ∃ m, k = m + 7 := ⟨k - 7, by omega⟩
  obtain ⟨ha, hb, hc, hd, hdet⟩ := isM_true h
  unfold ordR
  rw [if_pos h]
  by_cases h0 : b = 0 ∧ c = 0
  · rw [if_pos h0]
    obtain ⟨rfl, rfl⟩ := h0
    have h1 : a * d = 1 := by simpa using hdet
    rcases unit_of h1 with rfl | rfl
    · obtain rfl : d = 1 := by omega
      exact impl_ord_end (by decide)
    · obtain rfl : d = -1 := by omega
      rw [impl_ord_step (p' := 1) (q' := 0) (r' := 0) (s' := 1) (by omega) (by decide) (by decide) (by decide) (by decide) (by decide) (by decide) (by decide) (by decide) (by decide)]
      exact impl_ord_end (by decide)
  · rw [if_neg h0]
    have ht : a + d = 0 ∨ a + d = 1 ∨ a + d = -1 := by omega
    rcases ht with ht | ht | ht
    · obtain rfl : d = -a := by omega
      have hbc : b * c = -(a * a) - 1 := by grind
      rw [if_pos ht]
      rw [impl_ord_step (p' := -1) (q' := 0) (r' := 0) (s' := -1) (by omega) (by decide) h h (by decide) (by omega) (by grind) (by grind) (by grind) (by grind),
        impl_ord_step (p' := -a) (q' := -b) (r' := -c) (s' := a) (by omega) (by decide) h (by decide) (mkM (by omega) (by omega) (by omega) (by omega) (by grind)) (by decide) (by grind) (by grind) (by grind) (by grind),
        impl_ord_step (p' := 1) (q' := 0) (r' := 0) (s' := 1) (by omega) (by decide) h (mkM (by omega) (by omega) (by omega) (by omega) (by grind)) (by decide) (by omega) (by grind) (by grind) (by grind) (by grind)]
      exact impl_ord_end (by decide)
    · obtain rfl : d = 1 - a := by omega
      have hbc : b * c = a - a * a - 1 := by grind
      rw [if_neg (by omega), if_pos ht]
      rw [impl_ord_step (p' := a - 1) (q' := b) (r' := c) (s' := -a) (by omega) (by decide) h h (mkM (by omega) (by omega) (by omega) (by omega) (by grind)) (by omega) (by grind) (by grind) (by grind) (by grind),
        impl_ord_step (p' := -1) (q' := 0) (r' := 0) (s' := -1) (by omega) (by decide) h (mkM (by omega) (by omega) (by omega) (by omega) (by grind)) (by decide) (by omega) (by grind) (by grind) (by grind) (by grind),
        impl_ord_step (p' := -a) (q' := -b) (r' := -c) (s' := a - 1) (by omega) (by decide) h (by decide) (mkM (by omega) (by omega) (by omega) (by omega) (by grind)) (by decide) (by grind) (by grind) (by grind) (by grind),
        impl_ord_step (p' := 1 - a) (q' := -b) (r' := -c) (s' := a) (by omega) (by decide) h (mkM (by omega) (by omega) (by omega) (by omega) (by grind)) (mkM (by omega) (by omega) (by omega) (by omega) (by grind)) (by omega) (by grind) (by grind) (by grind) (by grind),
        impl_ord_step (p' := 1) (q' := 0) (r' := 0) (s' := 1) (by omega) (by decide) h (mkM (by omega) (by omega) (by omega) (by omega) (by grind)) (by decide) (by omega) (by grind) (by grind) (by grind) (by grind)]
      exact impl_ord_end (by decide)
    · obtain rfl : d = -1 - a := by omega
      have hbc : b * c = -a - a * a - 1 := by grind
      rw [if_neg (by omega), if_neg (by omega), if_pos ht]
      rw [impl_ord_step (p' := -1 - a) (q' := -b) (r' := -c) (s' := a) (by omega) (by decide) h h (mkM (by omega) (by omega) (by omega) (by omega) (by grind)) (by omega) (by grind) (by grind) (by grind) (by grind),
        impl_ord_step (p' := 1) (q' := 0) (r' := 0) (s' := 1) (by omega) (by decide) h (mkM (by omega) (by omega) (by omega) (by omega) (by grind)) (by decide) (by omega) (by grind) (by grind) (by grind) (by grind)]
      exact impl_ord_end (by decide)
theorem kind_cases {a b c d : Int} (h : isM a b c d = true) :
    ((b = 0 ∧ c = 0) ∧ (kindB a b c d).toList = [105, 100, 101, 110, 116, 105, 116, 121]) ∨ (¬ (b = 0 ∧ c = 0) ∧ (-1 ≤ a + d ∧ a + d ≤ 1) ∧ (kindB a b c d).toList = [112, 101, 114, 105, 111, 100, 105, 99]) ∨
      (¬ (b = 0 ∧ c = 0) ∧ ¬ (-1 ≤ a + d ∧ a + d ≤ 1) ∧ ((a + d = 2 ∨ a + d = -2) ∧ (kindB a b c d).toList = [116, 119, 105, 115, 116] ∨ ¬ (a + d = 2 ∨ a + d = -2) ∧ (kindB a b c d).toList = [115, 116, 114, 101, 116, 99, 104])) := by
  unfold kindB
  rw [if_pos h]
  by_cases h1 : b = 0 ∧ c = 0
  · left; rw [if_pos h1, toList_data]; exact ⟨h1, rfl⟩
  · right
    rw [if_neg h1]
    by_cases h2 : -1 ≤ a + d ∧ a + d ≤ 1
    · left; rw [if_pos h2, toList_data]; exact ⟨h1, h2, rfl⟩
    · right
      rw [if_neg h2]
      refine ⟨h1, h2, ?_⟩
      by_cases h3 : a + d = 2 ∨ a + d = -2
      · left; rw [if_pos h3, toList_data]; exact ⟨h3, rfl⟩
      · right; rw [if_neg h3, toList_data]; exact ⟨h3, rfl⟩
theorem ordR_none {a b c d : Int} (h : isM a b c d = true) (h1 : ¬ (b = 0 ∧ c = 0)) (h2 : ¬ (-1 ≤ a + d ∧ a + d ≤ 1)) : ordR a b c d = 0 := by
  unfold ordR
  rw [if_pos h, if_neg h1, if_neg (by omega), if_neg (by omega), if_neg (by omega)]
theorem spec_ord (a b c d : Int) (k : Nat) (hk : 20 < k) : spec_OrderOf.f k a b c d = some (ordR a b c d) := by
  unfold spec_OrderOf.f
  rw [spec_isM _ _ _ _ _ (by omega), spec_kind _ _ _ _ _ (by omega), Option.bind_some, Option.bind_some, Option.bind_some]
  by_cases h : isM a b c d = true
  · rw [if_pos h]
    obtain ⟨k, rfl⟩ : ∃ m, k = m + 1 := ⟨k - 1, by omega⟩
    simp only [spec_OrderOf.j0]
    rcases kind_cases h with ⟨h1, h2⟩ | ⟨h1, h2, h3⟩ | ⟨h1, h2, ⟨h3, h4⟩ | ⟨h3, h4⟩⟩
    · rw [h2, if_neg (by decide), if_neg (by decide)]
      exact spec_loop a b c d k (by omega) h (.inl h1)
    · rw [h3, if_neg (by decide), if_neg (by decide)]
      exact spec_loop a b c d k (by omega) h (.inr h2)
    · rw [h4, if_pos rfl, if_pos trivial, ordR_none h h1 h2]
    · rw [h4, if_neg (by decide), if_pos (by decide), ordR_none h h1 h2]
  · rw [if_neg h]
    unfold ordR
    rw [if_neg h]
theorem impl_ord (a b c d : Int) (k : Nat) (hk : 30 < k) : impl_OrderOf.f k a b c d = some (ordR a b c d) := by
  unfold impl_OrderOf.f
  rw [impl_isM _ _ _ _ _ (by omega), impl_kind _ _ _ _ _ (by omega), Option.bind_some, Option.bind_some]
  by_cases h : isM a b c d = true
  · rw [if_pos h]
    obtain ⟨k, rfl⟩ : ∃ m, k = m + 1 := ⟨k - 1, by omega⟩
    simp only [impl_OrderOf.j0]
    rcases kind_cases h with ⟨h1, h2⟩ | ⟨h1, h2, h3⟩ | ⟨h1, h2, ⟨h3, h4⟩ | ⟨h3, h4⟩⟩
    · rw [h2, if_pos rfl, if_neg (by decide)]
      exact impl_loop a b c d k (by omega) h (.inl h1)
    · rw [h3, if_neg (by decide), if_neg (by decide)]
      exact impl_loop a b c d k (by omega) h (.inr h2)
    · rw [h4, if_neg (by decide), if_pos (by decide), ordR_none h h1 h2]
    · rw [h4, if_neg (by decide), if_pos (by decide), ordR_none h h1 h2]
  · rw [if_neg h]
    unfold ordR
    rw [if_neg h]
end Go.Proofs.Ytjmifldndjkmpaa.L
