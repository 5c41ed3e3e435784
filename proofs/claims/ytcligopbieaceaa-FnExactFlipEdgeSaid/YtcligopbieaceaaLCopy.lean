/- What copyRows and l5Copy compute: the same rows; no condition but the number of rounds and the lengths. -/
import Derived.Test.YtcligopbieaceaaPx10
import Derived.Test.YtcligopbieaceaaPx19
import Derived.Test.YtcligopbieaceaaLSS
namespace Go.Proofs.Ytcligopbieaceaa.L
open Go.RowKit Go.Proofs.Ytcligopbieaceaa.P Go.Proofs.Ytcligopbieaceaa.Help Go.Proofs.YtcligopbieaceaaW.PrintWords
set_option linter.unusedVariables false
set_option linter.unusedSimpArgs false

theorem copyOf_f (r : List Int) (h : r.length ≤ 1048576) : impl_copyOf.f r = some r := by
  unfold impl_copyOf.f
  rw [Option.bind_some, if_pos (by simp; omega), List.nil_append]
theorem copyRows_l0 (xs : List (List Int)) (hx : xs.length ≤ 1048576) (hr : ∀ r ∈ xs, r.length ≤ 1048576) : ∀ (d k i : Nat), i + d = xs.length → d < k → impl_copyRows.l0 k (xs.take i) xs (xs.length : Int) (i : Int) = some xs := by
  intro d
  induction d with
  | zero =>
    intro k i hi hk
    obtain ⟨k, rfl⟩ : ∃ m, k = m + 1 := ⟨k - 1, by omega⟩
    simp only [impl_copyRows.l0]
    rw [if_neg (by omega), List.take_of_length_le (by omega)]
  | succ d ih =>
    intro k i hi hk
    obtain ⟨k, rfl⟩ : ∃ m, k = m + 1 := ⟨k - 1, by omega⟩
    have hlt : i < xs.length := by omega
    simp only [impl_copyRows.l0]
    rw [if_pos (by omega), if_pos (by omega), if_pos (by omega), rdL_nat xs i hlt, copyOf_f _ (hr _ (List.getElem_mem hlt)), Option.bind_some, if_pos (by rw [List.length_take]; omega), w_id (by omega) (by omega), show ((i : Int) + 1) = ((i + 1 : Nat) : Int) by omega, ← List.take_succ_eq_append_getElem hlt, ih k (i + 1) (by omega) (by omega)]
theorem copyRows_f (xs : List (List Int)) (hx : xs.length ≤ 1048576) (hr : ∀ r ∈ xs, r.length ≤ 1048576) (k : Nat) (hk : 1048577 < k) : impl_copyRows.f k xs = some xs := by
  unfold impl_copyRows.f
  have := copyRows_l0 xs hx hr xs.length k 0 (by omega) (by omega)
  rw [List.take_zero] at this
  exact this
theorem l5Copy_l0 (xs : List (List Int)) (hx : xs.length ≤ 1048576) (hr : ∀ r ∈ xs, r.length ≤ 1048576) : ∀ (d k i : Nat), i + d = xs.length → d < k → spec_l5Copy.l0 k xs (xs.take i) (i : Int) = some xs := by
  intro d
  induction d with
  | zero =>
    intro k i hi hk
    obtain ⟨k, rfl⟩ : ∃ m, k = m + 1 := ⟨k - 1, by omega⟩
    simp only [spec_l5Copy.l0]
    rw [if_neg (by omega), List.take_of_length_le (by omega)]
  | succ d ih =>
    intro k i hi hk
    obtain ⟨k, rfl⟩ : ∃ m, k = m + 1 := ⟨k - 1, by omega⟩
    have hlt : i < xs.length := by omega
    have hl := hr _ (List.getElem_mem hlt)
    simp only [spec_l5Copy.l0]
    rw [if_pos (by omega), Option.bind_some, if_pos (by omega), rdL_nat xs i hlt, if_pos (by simp; omega), if_pos (by rw [List.length_take]; omega), List.nil_append, w_id (by omega) (by omega), show ((i : Int) + 1) = ((i + 1 : Nat) : Int) by omega, ← List.take_succ_eq_append_getElem hlt, ih k (i + 1) (by omega) (by omega)]
theorem l5Copy_f (xs : List (List Int)) (hx : xs.length ≤ 1048576) (hr : ∀ r ∈ xs, r.length ≤ 1048576) (k : Nat) (hk : 1048577 < k) : spec_l5Copy.f k xs = some xs := by
  unfold spec_l5Copy.f
  have := l5Copy_l0 xs hx hr xs.length k 0 (by omega) (by omega)
  rw [List.take_zero] at this
  exact this
end Go.Proofs.Ytcligopbieaceaa.L
