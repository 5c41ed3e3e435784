/- What the program's and the reference's KindOf compute; no condition but the number of rounds. -/
import Derived.Test.YtjmifldndjkmpaaPx6
import Derived.Test.YtjmifldndjkmpaaPx10
import Derived.Test.YtjmifldndjkmpaaPx11
import Derived.Test.YtjmifldndjkmpaaHelp
import Derived.Test.YtjmifldndjkmpaaLIsM
namespace Go.Proofs.Ytjmifldndjkmpaa.L
open Go.RowKit Go.Proofs.Ytjmifldndjkmpaa.P Go.Proofs.Ytjmifldndjkmpaa.Help Go.Proofs.YtjmifldndjkmpaaW.PrintWords
set_option linter.unusedVariables false
set_option linter.unusedSimpArgs false

/-- The kind of a matrix. -/
def kindB (a b c d : Int) : ByteArray :=
  if isM a b c d = true then
    if b = 0 ∧ c = 0 then ⟨#[105, 100, 101, 110, 116, 105, 116, 121]⟩
    else if -1 ≤ a + d ∧ a + d ≤ 1 then ⟨#[112, 101, 114, 105, 111, 100, 105, 99]⟩
    else if a + d = 2 ∨ a + d = -2 then ⟨#[116, 119, 105, 115, 116]⟩ else ⟨#[115, 116, 114, 101, 116, 99, 104]⟩
  else ⟨#[]⟩
theorem spec_kind (a b c d : Int) (k : Nat) (hk : 4 < k) : spec_KindOf.f k a b c d = some (kindB a b c d) := by
  obtain ⟨k, rfl⟩ : ∃ m, k = m + 1 := ⟨k - 1, by omega⟩
  unfold spec_KindOf.f kindB
  rw [spec_isM _ _ _ _ _ hk, Option.bind_some]
  by_cases h : isM a b c d = true
  · rw [if_pos h, if_pos h]
    obtain ⟨ha, hb, hc, hd, hdet⟩ := isM_true h
    have hw : wrap64 (a + d) = a + d := w_id (by omega) (by omega)
    simp only [spec_KindOf.j0, l1In_eq, hw, Option.bind_some, decide_eq_true_eq, beq_iff_eq, Bool.false_eq_true, if_false]
    by_cases h1 : b = 0
    · by_cases h2 : c = 0
      · simp [h1, h2]
      · simp only [h1, h2, if_true, if_false, and_false]
        by_cases h3 : -1 ≤ a + d ∧ a + d ≤ 1
        · rw [if_pos h3, if_pos h3]
        · rw [if_neg h3, if_neg h3]
          by_cases h4 : -2 ≤ a + d ∧ a + d ≤ 2
          · rw [if_pos h4, if_pos (by omega)]
          · rw [if_neg h4, if_neg (by omega)]
    · simp only [h1, if_false, false_and]
      by_cases h3 : -1 ≤ a + d ∧ a + d ≤ 1
      · rw [if_pos h3, if_pos h3]
      · rw [if_neg h3, if_neg h3]
        by_cases h4 : -2 ≤ a + d ∧ a + d ≤ 2
        · rw [if_pos h4, if_pos (by omega)]
        · rw [if_neg h4, if_neg (by omega)]
  · rw [if_neg h, if_neg h]
theorem impl_kind (a b c d : Int) (k : Nat) (hk : 4 < k) : impl_KindOf.f k a b c d = some (kindB a b c d) := by
  obtain ⟨k, rfl⟩ : ∃ m, k = m + 1 := ⟨k - 1, by omega⟩
  unfold impl_KindOf.f kindB impl_one.f
  rw [impl_isM _ _ _ _ _ hk, Option.bind_some]
  by_cases h : isM a b c d = true
  · rw [if_pos h, if_pos h]
    obtain ⟨ha, hb, hc, hd, hdet⟩ := isM_true h
    have hw : wrap64 (a + d) = a + d := w_id (by omega) (by omega)
    have hid : (b = 0 ∧ c = 0) ↔ ((a = 1 ∧ b = 0 ∧ c = 0 ∧ d = 1) ∨ (a = -1 ∧ b = 0 ∧ c = 0 ∧ d = -1)) := by
      constructor
      · rintro ⟨rfl, rfl⟩
        have h1 : a * d = 1 := by simpa using hdet
        rcases unit_of h1 with rfl | rfl
        · left; refine ⟨rfl, rfl, rfl, by omega⟩
        · right; refine ⟨rfl, rfl, rfl, by omega⟩
      · rintro (⟨_, h1, h2, _⟩ | ⟨_, h1, h2, _⟩) <;> exact ⟨h1, h2⟩
    simp only [impl_KindOf.j0, within_eq, hw, Option.bind_some, decide_eq_true_eq, Bool.and_eq_true, beq_iff_eq]
    by_cases h1 : a = 1 ∧ b = 0 ∧ c = 0 ∧ d = 1
    · rw [if_pos h1, if_pos (hid.2 (.inl h1)), if_pos trivial]
    · rw [if_neg h1]
      by_cases h2 : a = -1 ∧ b = 0 ∧ c = 0 ∧ d = -1
      · rw [if_pos h2, if_pos (hid.2 (.inr h2))]
      · rw [if_neg h2, if_neg (fun h => (hid.1 h).elim h1 h2)]
        by_cases h3 : -1 ≤ a + d ∧ a + d ≤ 1
        · rw [if_pos h3, if_pos h3]
        · rw [if_neg h3, if_neg h3]
          by_cases h4 : a + d = 2
          · rw [if_pos h4, if_pos (.inl h4)]
          · rw [if_neg h4]
            by_cases h5 : a + d = -2
            · rw [if_pos h5, if_pos (.inr h5)]
            · rw [if_neg h5, if_neg (by omega)]
  · rw [if_neg h, if_neg h]
theorem toList_loop (s : ByteArray) : ∀ (n i : Nat) (r : List UInt8), i + n = s.size → ByteArray.toList.loop s i r = r.reverse ++ s.data.toList.drop i := by
  intro n
  induction n with
  | zero =>
    intro i r h
    unfold ByteArray.toList.loop
    rw [if_neg (by omega), List.drop_of_length_le (by rw [data_length]; omega), List.append_nil]
  | succ n ih =>
    intro i r h
    have hi : i < s.size := by omega
    have hl : i < s.data.toList.length := by rw [data_length]; exact hi
    unfold ByteArray.toList.loop
    rw [if_pos hi, ih (i + 1) _ (by omega), List.reverse_cons, List.append_assoc, List.drop_eq_getElem_cons hl]
    congr 1
    have : s.get! i = s.data.toList[i] := by
      simp only [ByteArray.get!, Array.getElem_toList]
      exact getElem!_pos s.data i (by simpa using hl)
    rw [this]
    rfl
theorem toList_data (s : ByteArray) : s.toList = s.data.toList := by
  unfold ByteArray.toList
  rw [toList_loop s s.size 0 [] (by omega)]
  simp
theorem kind_cases {a b c d : Int} (h : isM a b c d = true) :
    ((b = 0 ∧ c = 0) ∧ (kindB a b c d).toList = [105, 100, 101, 110, 116, 105, 116, 121]) ∨ (¬ (b = 0 ∧ c = 0) ∧ (-1 ≤ a + d ∧ a + d ≤ 1) ∧ (kindB a b c d).toList = [112, 101, 114, 105, 111, 100, 105, 99]) ∨
      (¬ (b = 0 ∧ c = 0) ∧ ¬ (-1 ≤ a + d ∧ a + d ≤ 1) ∧ ((a + d = 2 ∨ a + d = -2) ∧ (kindB a b c d).toList = [116, 119, 105, 115, 116] ∨ ¬ (a + d = 2 ∨ a + d = -2) ∧ (kindB a b c d).toList = [115, 116, 114, 101, 116, 99, 104])) := by
  unfold kindB
  rw [if_pos h]
  by_cases h1 : b = 0 ∧ c = 0
  · left; rw [if_pos h1, toList_data]; exact ⟨h1, rfl⟩
  · right
    rw [if_neg h1]
    by_cases h2 : -1 ≤ a + d ∧ a + d ≤ 1
    · left; rw [if_pos h2, toList_data]; exact ⟨h1, h2, rfl⟩
    · right
      rw [if_neg h2]
      refine ⟨h1, h2, ?_⟩
      by_cases h3 : a + d = 2 ∨ a + d = -2
      · left; rw [if_pos h3, toList_data]; exact ⟨h3, rfl⟩
      · right; rw [if_neg h3, toList_data]; exact ⟨h3, rfl⟩
theorem isM_false_kind {a b c d : Int} (h : ¬ isM a b c d = true) : (kindB a b c d).toList = [] := by
  unfold kindB
  rw [if_neg h, toList_data]
end Go.Proofs.Ytjmifldndjkmpaa.L
