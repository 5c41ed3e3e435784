/- What the program's and the reference's TurnsTo compute; no condition but the number of rounds. -/
import Derived.Test.YtjmifldndjkmpaaPx28
import Derived.Test.YtjmifldndjkmpaaPx29
import Derived.Test.YtjmifldndjkmpaaHelp
import Derived.Test.YtjmifldndjkmpaaLIsS
namespace Go.Proofs.Ytjmifldndjkmpaa.L
open Go.RowKit Go.Proofs.Ytjmifldndjkmpaa.P Go.Proofs.Ytjmifldndjkmpaa.Help Go.Proofs.YtjmifldndjkmpaaW.PrintWords
set_option linter.unusedVariables false
set_option linter.unusedSimpArgs false

def ba (l : List UInt8) : ByteArray := ⟨l.toArray⟩
theorem ba_size (l : List UInt8) : (ba l).size = l.length := by simp [ba, ByteArray.size]
theorem ba_append (l m : List UInt8) : ba l ++ ba m = ba (l ++ m) := by
  apply ByteArray.ext
  simp [ba, ByteArray.data_append]
/-- The turns that move 1 / 1 to a slope. -/
def tw : Nat → Int → Int → List UInt8
  | 0, _, _ => []
  | n + 1, p, q => if p = q then [] else if p > q then 82 :: tw n (p - q) q else 76 :: tw n p (q - p)
theorem spec_tw : ∀ (n k : Nat) (l : List UInt8) (p q : Int), 1 ≤ p → 1 ≤ q → p + q ≤ n → n < k → l.length + n ≤ 1000000000 → spec_TurnsTo.l0 k (ba l) p q = some (ba (if l.length + (tw n p q).length > 24 then [] else l ++ tw n p q)) := by
  intro n
  induction n with
  | zero => intro k l p q hp hq hn; omega
  | succ n ih =>
    intro k l p q hp hq hn hk hl
    obtain ⟨k, rfl⟩ : ∃ m, k = m + 1 := ⟨k - 1, by omega⟩
    unfold spec_TurnsTo.l0 tw
    rw [ba_size]
    by_cases h : p = q
    · rw [if_pos h, if_pos h]
      simp only [List.length_nil, Nat.add_zero, List.append_nil]
      by_cases h2 : l.length > 24
      · rw [if_pos (by omega), if_pos h2]; rfl
      · rw [if_neg (by omega), if_neg h2]
    · rw [if_neg h, if_neg h]
      by_cases h3 : p > q
      · rw [if_pos h3, if_pos h3, if_pos (by omega), w_id (by omega) (by omega), show (⟨#[82]⟩ : ByteArray) = ba [82] from rfl, ba_append, ih k _ _ _ (by omega) hq (by omega) (by omega) (by simp; omega)]
        simp only [List.length_append, List.length_cons, List.length_nil, List.append_assoc, List.cons_append, List.nil_append]
        rw [show l.length + (0 + 1) + (tw n (p - q) q).length = l.length + ((tw n (p - q) q).length + 1) by omega]
      · rw [if_neg h3, if_neg h3, if_pos (by omega), w_id (by omega) (by omega), show (⟨#[76]⟩ : ByteArray) = ba [76] from rfl, ba_append, ih k _ _ _ hp (by omega) (by omega) (by omega) (by simp; omega)]
        simp only [List.length_append, List.length_cons, List.length_nil, List.append_assoc, List.cons_append, List.nil_append]
        rw [show l.length + (0 + 1) + (tw n p (q - p)).length = l.length + ((tw n p (q - p)).length + 1) by omega]
theorem impl_tw : ∀ (n k : Nat) (l : List UInt8) (p q : Int), 1 ≤ p → 1 ≤ q → p + q ≤ n → n < k → n ≤ 1000000000 → l.length ≤ 24 → impl_TurnsTo.l0 k (ba l) p q = some (ba (if l.length + (tw n p q).length > 24 then [] else l ++ tw n p q)) := by
  intro n
  induction n with
  | zero => intro k l p q hp hq hn; omega
  | succ n ih =>
    intro k l p q hp hq hn hk hn2 hl
    obtain ⟨k, rfl⟩ : ∃ m, k = m + 1 := ⟨k - 1, by omega⟩
    unfold impl_TurnsTo.l0 tw
    rw [ba_size]
    by_cases h : p = q
    · rw [if_pos h, if_pos h]
      simp only [List.length_nil, Nat.add_zero, List.append_nil]
      rw [if_neg (by omega)]
    · rw [if_neg h, if_neg h]
      by_cases h4 : l.length = 24
      · rw [if_pos (by omega), if_pos (by split <;> simp <;> omega)]
        rfl
      · rw [if_neg (by omega)]
        by_cases h3 : p > q
        · rw [if_pos h3, if_pos h3, if_pos (by omega), w_id (by omega) (by omega), show (⟨#[82]⟩ : ByteArray) = ba [82] from rfl, ba_append, ih k _ _ _ (by omega) hq (by omega) (by omega) (by omega) (by simp; omega)]
          simp only [List.length_append, List.length_cons, List.length_nil, List.append_assoc, List.cons_append, List.nil_append]
          rw [show l.length + (0 + 1) + (tw n (p - q) q).length = l.length + ((tw n (p - q) q).length + 1) by omega]
        · rw [if_neg h3, if_neg h3, if_pos (by omega), w_id (by omega) (by omega), show (⟨#[76]⟩ : ByteArray) = ba [76] from rfl, ba_append, ih k _ _ _ hp (by omega) (by omega) (by omega) (by omega) (by simp; omega)]
          simp only [List.length_append, List.length_cons, List.length_nil, List.append_assoc, List.cons_append, List.nil_append]
          rw [show l.length + (0 + 1) + (tw n p (q - p)).length = l.length + ((tw n p (q - p)).length + 1) by omega]
def turnsToL (p q : Int) : List UInt8 := if isS p q = true ∧ 1 ≤ p ∧ 1 ≤ q then (if (tw 2000 p q).length > 24 then [] else tw 2000 p q) else []
theorem spec_turnsTo (p q : Int) (k : Nat) (hk : 2001 < k) : spec_TurnsTo.f k p q = some (ba (turnsToL p q)) := by
  obtain ⟨k, rfl⟩ : ∃ m, k = m + 1 := ⟨k - 1, by omega⟩
  unfold spec_TurnsTo.f turnsToL
  rw [spec_isS _ _ _ (by omega), Option.bind_some]
  by_cases h : isS p q = true
  · rw [if_pos h]
    by_cases h1 : p < 1
    · rw [if_pos h1, if_neg (fun h => by omega)]
      simp [spec_TurnsTo.j0, ba]
    · rw [if_neg h1]
      simp only [spec_TurnsTo.j0, decide_eq_true_eq]
      by_cases h2 : q < 1
      · rw [if_pos h2, if_neg (fun h => by omega)]
        rfl
      · rw [if_neg h2, if_pos ⟨h, by omega, by omega⟩]
        obtain ⟨b1, b2, _⟩ := isS_true h
        have := spec_tw 2000 k [] p q (by omega) (by omega) (by omega) (by omega) (by simp)
        simpa [ba] using this
  · rw [if_neg h, if_neg (fun h' => h h'.1)]
    simp [spec_TurnsTo.j0, ba]
theorem impl_turnsTo (p q : Int) (k : Nat) (hk : 2001 < k) : impl_TurnsTo.f k p q = some (ba (turnsToL p q)) := by
  obtain ⟨k, rfl⟩ : ∃ m, k = m + 1 := ⟨k - 1, by omega⟩
  unfold impl_TurnsTo.f turnsToL
  rw [impl_isS _ _ _ (by omega), Option.bind_some]
  by_cases h : isS p q = true
  · rw [if_pos h]
    by_cases h1 : p < 1
    · rw [if_pos h1, if_neg (fun h => by omega)]
      simp [impl_TurnsTo.j0, ba]
    · rw [if_neg h1]
      simp only [impl_TurnsTo.j0, decide_eq_true_eq]
      by_cases h2 : q < 1
      · rw [if_pos h2, if_neg (fun h => by omega)]
        rfl
      · rw [if_neg h2, if_pos ⟨h, by omega, by omega⟩]
        obtain ⟨b1, b2, _⟩ := isS_true h
        have := impl_tw 2000 k [] p q (by omega) (by omega) (by omega) (by omega) (by omega) (by simp)
        simpa [ba] using this
  · rw [if_neg h, if_neg (fun h' => h h'.1)]
    simp [impl_TurnsTo.j0, ba]
end Go.Proofs.Ytjmifldndjkmpaa.L
