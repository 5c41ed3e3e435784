/- What the program's and the reference's CrossSum compute; no condition but the number of rounds and the length. -/
import Derived.Test.YtcligopbieaceaaPx1
import Derived.Test.YtcligopbieaceaaPx2
import Derived.Test.YtcligopbieaceaaLCoord
namespace Go.Proofs.Ytcligopbieaceaa.L
open Go.RowKit Go.Proofs.Ytcligopbieaceaa.P Go.Proofs.Ytcligopbieaceaa.Help Go.Proofs.YtcligopbieaceaaW.PrintWords
set_option linter.unusedVariables false
set_option linter.unusedSimpArgs false

def sumL : List Int → Int
  | [] => 0
  | x :: xs => x + sumL xs
theorem sumL_bd : ∀ (xs : List Int), xs.all co = true → 0 ≤ sumL xs ∧ sumL xs ≤ 200 * xs.length
  | [], _ => by simp [sumL]
  | x :: xs, h => by
    rw [List.all_cons, Bool.and_eq_true] at h
    have := sumL_bd xs h.2
    have := co_true h.1
    rw [sumL, List.length_cons]
    omega
theorem spec_sum_l0 (xs : List Int) (hx : xs.length ≤ 1048576) : ∀ (d k i : Nat) (n : Int), i + d = xs.length → d < k → 0 ≤ n → n ≤ 200 * i → spec_CrossSum.l0 k xs n (i : Int) = some (if (xs.drop i).all co = true then n + sumL (xs.drop i) else -1) := by
  intro d
  induction d with
  | zero =>
    intro k i n hi hk h0 h1
    obtain ⟨k, rfl⟩ : ∃ m, k = m + 1 := ⟨k - 1, by omega⟩
    simp only [spec_CrossSum.l0]
    rw [if_neg (by omega), List.drop_of_length_le (by omega)]
    simp [sumL]
  | succ d ih =>
    intro k i n hi hk h0 h1
    obtain ⟨k, rfl⟩ : ∃ m, k = m + 1 := ⟨k - 1, by omega⟩
    have hlt : i < xs.length := by omega
    simp only [spec_CrossSum.l0]
    rw [if_pos (by omega), if_pos (by omega), l1In_eq, Option.bind_some, rd_nat xs i hlt, List.drop_eq_getElem_cons hlt, List.all_cons, sumL]
    by_cases h : 0 ≤ xs[i] ∧ xs[i] ≤ 200
    · have hc : co xs[i] = true := decide_eq_true h
      rw [if_pos (decide_eq_true h), w_id (a := n + xs[i]) (by omega) (by omega), w_id (by omega) (by omega), show ((i : Int) + 1) = ((i + 1 : Nat) : Int) by omega, ih k (i + 1) _ (by omega) (by omega) (by omega) (by omega), hc, Bool.true_and]
      split
      · congr 1; omega
      · rfl
    · have hc : co xs[i] = false := decide_eq_false h
      rw [if_neg (by simpa using h), hc, Bool.false_and, if_neg (by decide)]
theorem impl_sum_l0 (xs : List Int) (hx : xs.length ≤ 1048576) (hc : xs.all co = true) : ∀ (d k i : Nat) (n : Int), i + d = xs.length → d < k → 0 ≤ n → n ≤ 200 * i → impl_CrossSum.l0 k n xs (xs.length : Int) (i : Int) = some (n + sumL (xs.drop i)) := by
  intro d
  induction d with
  | zero =>
    intro k i n hi hk h0 h1
    obtain ⟨k, rfl⟩ : ∃ m, k = m + 1 := ⟨k - 1, by omega⟩
    simp only [impl_CrossSum.l0]
    rw [if_neg (by omega), List.drop_of_length_le (by omega)]
    simp [sumL]
  | succ d ih =>
    intro k i n hi hk h0 h1
    obtain ⟨k, rfl⟩ : ∃ m, k = m + 1 := ⟨k - 1, by omega⟩
    have hlt : i < xs.length := by omega
    have h := all_co hc xs[i] (List.getElem_mem hlt)
    simp only [impl_CrossSum.l0]
    rw [if_pos (by omega), if_pos (by omega), if_pos (by omega), rd_nat xs i hlt, w_id (a := n + xs[i]) (by omega) (by omega), w_id (by omega) (by omega), show ((i : Int) + 1) = ((i + 1 : Nat) : Int) by omega, ih k (i + 1) _ (by omega) (by omega) (by omega) (by omega), List.drop_eq_getElem_cons hlt, sumL]
    congr 1
    omega
def sumR (xs : List Int) : Int := if xs.all co = true then sumL xs else -1
theorem spec_sum (xs : List Int) (hx : xs.length ≤ 1048576) (k : Nat) (hk : 1048576 < k) : spec_CrossSum.f k xs = some (sumR xs) := by
  unfold spec_CrossSum.f sumR
  have := spec_sum_l0 xs hx xs.length k 0 0 (by omega) (by omega) (by omega) (by omega)
  rw [List.drop_zero, Int.zero_add] at this
  exact this
theorem impl_sum (xs : List Int) (hx : xs.length ≤ 1048576) (k : Nat) (hk : 1048576 < k) : impl_CrossSum.f k xs = some (sumR xs) := by
  unfold impl_CrossSum.f sumR
  rw [areCo xs (by omega) k (by omega), Option.bind_some]
  by_cases h : xs.all co = true
  · rw [if_pos h, if_pos h]
    have := impl_sum_l0 xs hx h xs.length k 0 0 (by omega) (by omega) (by omega) (by omega)
    rw [List.drop_zero, Int.zero_add] at this
    exact this
  · rw [if_neg h, if_neg h]
end Go.Proofs.Ytcligopbieaceaa.L
