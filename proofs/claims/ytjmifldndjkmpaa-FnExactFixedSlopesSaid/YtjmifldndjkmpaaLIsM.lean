/- What the program's and the reference's IsMatrix compute; no condition but the number of rounds. -/
import Derived.Test.YtjmifldndjkmpaaPx3
import Derived.Test.YtjmifldndjkmpaaHelp
import Derived.Test.YtjmifldndjkmpaaLIn
namespace Go.Proofs.Ytjmifldndjkmpaa.L
open Go.RowKit Go.Proofs.Ytjmifldndjkmpaa.P Go.Proofs.Ytjmifldndjkmpaa.Help Go.Proofs.YtjmifldndjkmpaaW.PrintWords
set_option linter.unusedVariables false
set_option linter.unusedSimpArgs false

def sm (x : Int) : Bool := decide (-1000 ≤ x ∧ x ≤ 1000)
theorem fits_l0 (xs : List Int) (hx : xs.length ≤ 1000000) : ∀ (d k i : Nat), i + d = xs.length → d < k → spec_l11Fits.l0 k xs (i : Int) = some ((xs.drop i).all sm) := by
  intro d
  induction d with
  | zero =>
    intro k i hi hk
    obtain ⟨k, rfl⟩ : ∃ m, k = m + 1 := ⟨k - 1, by omega⟩
    simp only [spec_l11Fits.l0]
    rw [if_neg (by omega), List.drop_of_length_le (by omega)]
    rfl
  | succ d ih =>
    intro k i hi hk
    obtain ⟨k, rfl⟩ : ∃ m, k = m + 1 := ⟨k - 1, by omega⟩
    have hlt : i < xs.length := by omega
    simp only [spec_l11Fits.l0]
    rw [if_pos (by omega), if_pos (by omega), l1In_eq, Option.bind_some, w_id (by omega) (by omega), show ((i : Int) + 1) = ((i + 1 : Nat) : Int) by omega, ih k (i + 1) (by omega) (by omega), List.drop_eq_getElem_cons hlt, List.all_cons, rd_nat xs i hlt]
    unfold sm
    by_cases h : -1000 ≤ xs[i] ∧ xs[i] ≤ 1000 <;> simp [h]
theorem areSmall_l0 (xs : List Int) (hx : xs.length ≤ 1000000) : ∀ (d k i : Nat), i + d = xs.length → d < k → impl_areSmall.l0 k xs (xs.length : Int) (i : Int) = some ((xs.drop i).all sm) := by
  intro d
  induction d with
  | zero =>
    intro k i hi hk
    obtain ⟨k, rfl⟩ : ∃ m, k = m + 1 := ⟨k - 1, by omega⟩
    simp only [impl_areSmall.l0]
    rw [if_neg (by omega), List.drop_of_length_le (by omega)]
    rfl
  | succ d ih =>
    intro k i hi hk
    obtain ⟨k, rfl⟩ : ∃ m, k = m + 1 := ⟨k - 1, by omega⟩
    have hlt : i < xs.length := by omega
    simp only [impl_areSmall.l0]
    rw [if_pos (by omega), if_pos (by omega), if_pos (by omega), within_eq, Option.bind_some, w_id (by omega) (by omega), show ((i : Int) + 1) = ((i + 1 : Nat) : Int) by omega, ih k (i + 1) (by omega) (by omega), List.drop_eq_getElem_cons hlt, List.all_cons, rd_nat xs i hlt]
    unfold sm
    by_cases h : -1000 ≤ xs[i] ∧ xs[i] ≤ 1000 <;> simp [h]
/-- A matrix: four small numbers, the determinant 1. -/
def isM (a b c d : Int) : Bool := decide ((-1000 ≤ a ∧ a ≤ 1000) ∧ (-1000 ≤ b ∧ b ≤ 1000) ∧ (-1000 ≤ c ∧ c ≤ 1000) ∧ (-1000 ≤ d ∧ d ≤ 1000) ∧ a * d - b * c = 1)
theorem isM_true {a b c d : Int} (h : isM a b c d = true) : (-1000 ≤ a ∧ a ≤ 1000) ∧ (-1000 ≤ b ∧ b ≤ 1000) ∧ (-1000 ≤ c ∧ c ≤ 1000) ∧ (-1000 ≤ d ∧ d ≤ 1000) ∧ a * d - b * c = 1 := of_decide_eq_true h
theorem det_w {a b c d : Int} (ha : -1000 ≤ a ∧ a ≤ 1000) (hb : -1000 ≤ b ∧ b ≤ 1000) (hc : -1000 ≤ c ∧ c ≤ 1000) (hd : -1000 ≤ d ∧ d ≤ 1000) : wrap64 ((wrap64 (a * d)) - (wrap64 (b * c))) = a * d - b * c := by
  have h1 := mulb ha.1 ha.2 hd.1 hd.2
  have h2 := mulb hb.1 hb.2 hc.1 hc.2
  rw [w_id (a := a * d) (by omega) (by omega), w_id (a := b * c) (by omega) (by omega), w_id (by omega) (by omega)]
theorem four_all (a b c d : Int) : ([a, b, c, d].all sm) = decide ((-1000 ≤ a ∧ a ≤ 1000) ∧ (-1000 ≤ b ∧ b ≤ 1000) ∧ (-1000 ≤ c ∧ c ≤ 1000) ∧ (-1000 ≤ d ∧ d ≤ 1000)) := by
  rw [Bool.eq_iff_iff]
  simp [List.all_cons, sm]
theorem isM_of {a b c d : Int} {t : Bool} (ht : t = decide ((-1000 ≤ a ∧ a ≤ 1000) ∧ (-1000 ≤ b ∧ b ≤ 1000) ∧ (-1000 ≤ c ∧ c ≤ 1000) ∧ (-1000 ≤ d ∧ d ≤ 1000))) :
    (if t = true then (some ((wrap64 ((wrap64 (a * d)) - (wrap64 (b * c)))) == 1)) else (some false)) = some (isM a b c d) := by
  subst ht
  by_cases h : (-1000 ≤ a ∧ a ≤ 1000) ∧ (-1000 ≤ b ∧ b ≤ 1000) ∧ (-1000 ≤ c ∧ c ≤ 1000) ∧ (-1000 ≤ d ∧ d ≤ 1000)
  · rw [if_pos (decide_eq_true h), det_w h.1 h.2.1 h.2.2.1 h.2.2.2]
    unfold isM
    congr 1
    rw [Bool.eq_iff_iff]
    simp [h]
  · rw [if_neg (by simpa using h)]
    unfold isM
    congr 1
    symm
    rw [decide_eq_false_iff_not]
    rintro ⟨h1, h2, h3, h4, _⟩
    exact h ⟨h1, h2, h3, h4⟩
theorem spec_isM (a b c d : Int) (k : Nat) (hk : 4 < k) : spec_IsMatrix.f k a b c d = some (isM a b c d) := by
  unfold spec_IsMatrix.f spec_l11Fits.f
  rw [show (0 : Int) = ((0 : Nat) : Int) from rfl, fits_l0 _ (by simp) 4 k 0 (by simp) hk, Option.bind_some, List.drop_zero]
  exact isM_of (four_all a b c d)
theorem impl_isM (a b c d : Int) (k : Nat) (hk : 4 < k) : impl_IsMatrix.f k a b c d = some (isM a b c d) := by
  unfold impl_IsMatrix.f impl_areSmall.f
  rw [show (0 : Int) = ((0 : Nat) : Int) from rfl, areSmall_l0 _ (by simp) 4 k 0 (by simp) hk, Option.bind_some, List.drop_zero]
  exact isM_of (four_all a b c d)
end Go.Proofs.Ytjmifldndjkmpaa.L
