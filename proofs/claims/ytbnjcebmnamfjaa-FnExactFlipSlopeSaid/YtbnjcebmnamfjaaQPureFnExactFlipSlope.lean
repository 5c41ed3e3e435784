/- The program's FlipSlope answers as the reference's, for all arguments; no condition. -/
import Derived.Test.YtbnjcebmnamfjaaQPx0
import Derived.Test.YtbnjcebmnamfjaaQHelp
import Derived.Test.YtbnjcebmnamfjaaQPx2
import Derived.Test.YtbnjcebmnamfjaaQPx33
import Derived.Test.YtbnjcebmnamfjaaQPx37
import Derived.Test.YtbnjcebmnamfjaaQPx19
import Derived.Test.YtbnjcebmnamfjaaQPx35
import Derived.Test.YtbnjcebmnamfjaaQPx36
import Derived.Test.YtbnjcebmnamfjaaQPx20
import Derived.Test.YtbnjcebmnamfjaaQPx17
import Derived.Test.YtbnjcebmnamfjaaQPx18
import Derived.Test.YtbnjcebmnamfjaaQPx21
import Derived.Test.YtbnjcebmnamfjaaQPx4
import Derived.Test.YtbnjcebmnamfjaaQPx22
import Derived.Test.YtbnjcebmnamfjaaQPx34
import Derived.Test.YtbnjcebmnamfjaaQPx38
import Derived.Test.YtbnjcebmnamfjaaQPx8
import Derived.Test.YtbnjcebmnamfjaaQPx3
import Derived.Test.YtbnjcebmnamfjaaQPx39

namespace Go.Proofs.Ytbnjcebmnamfjaa.L
open Go.RowKit Go.Proofs.Ytbnjcebmnamfjaa.P Go.Proofs.Ytbnjcebmnamfjaa.Help Go.Proofs.YtbnjcebmnamfjaaW.PrintWords
set_option linter.unusedVariables false
set_option linter.unusedSimpArgs false

theorem w_id {a : Int} (h0 : -9223372036854775808 ≤ a) (h1 : a ≤ 9223372036854775807) : wrap64 a = a := by unfold wrap64; omega
theorem mulb {a b A B : Int} (h1 : -A ≤ a) (h2 : a ≤ A) (h3 : -B ≤ b) (h4 : b ≤ B) : -(A * B) ≤ a * b ∧ a * b ≤ A * B := by
  have hA : 0 ≤ A := by omega
  have hB : 0 ≤ B := by omega
  have h : (a * b).natAbs ≤ (A * B).natAbs := by
    rw [Int.natAbs_mul, Int.natAbs_mul]
    exact Nat.mul_le_mul (by omega) (by omega)
  have hp : 0 ≤ A * B := Int.mul_nonneg hA hB
  omega
theorem rd_nat (xs : List Int) (i : Nat) (h : i < xs.length) : rd xs (i : Int) = xs[i] := by
  unfold rd
  simp [List.getD_eq_getElem?_getD, List.getElem?_eq_getElem h]
theorem bind_ite {α β : Type} {c : Prop} [Decidable c] (x y : Option α) (f : α → Option β) : (if c then x else y).bind f = if c then x.bind f else y.bind f := by split <;> rfl
theorem unit_of {a d : Int} (h : a * d = 1) : a = 1 ∨ a = -1 := by
  have h1 : a.natAbs * d.natAbs = 1 := by rw [← Int.natAbs_mul, h]; rfl
  have h2 : a.natAbs = 1 := Nat.eq_one_of_mul_eq_one_right h1
  omega
end Go.Proofs.Ytbnjcebmnamfjaa.L

namespace Go.Proofs.Ytbnjcebmnamfjaa.L
open Go.RowKit Go.Proofs.Ytbnjcebmnamfjaa.P Go.Proofs.Ytbnjcebmnamfjaa.Help Go.Proofs.YtbnjcebmnamfjaaW.PrintWords
set_option linter.unusedVariables false
set_option linter.unusedSimpArgs false

theorem l1In_eq (a lo hi : Int) : spec_l1In.f a lo hi = some (decide (lo ≤ a ∧ a ≤ hi)) := by
  unfold spec_l1In.f
  by_cases h : lo ≤ a <;> simp [h]
theorem within_eq (a lo hi : Int) : impl_within.f a lo hi = some (decide (lo ≤ a ∧ a ≤ hi)) := by
  unfold impl_within.f
  by_cases h : lo ≤ a <;> simp [h]
end Go.Proofs.Ytbnjcebmnamfjaa.L

namespace Go.Proofs.Ytbnjcebmnamfjaa.L
open Go.RowKit Go.Proofs.Ytbnjcebmnamfjaa.P Go.Proofs.Ytbnjcebmnamfjaa.Help Go.Proofs.YtbnjcebmnamfjaaW.PrintWords
set_option linter.unusedVariables false
set_option linter.unusedSimpArgs false

theorem l3Abs_eq {a : Int} (h0 : -9223372036854775807 ≤ a) (h1 : a ≤ 9223372036854775807) : spec_l3Abs.f a = some (a.natAbs : Int) := by
  unfold spec_l3Abs.f spec_l1Max.f
  rw [w_id (by omega) (by omega)]
  by_cases h : a > -a
  · rw [if_pos h]; simp only [Option.bind_some]; congr 1; omega
  · rw [if_neg h]; simp only [Option.bind_some]; congr 1; omega
theorem size_eq {a : Int} (h0 : -9223372036854775807 ≤ a) (h1 : a ≤ 9223372036854775807) : impl_size.f a = some (a.natAbs : Int) := by
  unfold impl_size.f
  rw [w_id (by omega) (by omega)]
  congr 1
  unfold mx
  split <;> omega
theorem gcd_step (a b : Int) (hb : b ≠ 0) : Int.gcd b (a.tmod b) = Int.gcd a b := by
  show Nat.gcd b.natAbs (a.tmod b).natAbs = Nat.gcd a.natAbs b.natAbs
  rw [Int.natAbs_tmod, Nat.gcd_comm a.natAbs b.natAbs, Nat.gcd_comm b.natAbs (a.natAbs % b.natAbs), ← Nat.gcd_rec]
theorem tmod_bd (a b : Int) (hb : b ≠ 0) : (a.tmod b).natAbs < b.natAbs := by
  rw [Int.natAbs_tmod]
  exact Nat.mod_lt _ (by omega)
theorem spec_gcd_l0 : ∀ (n k : Nat) (a b : Int), b.natAbs ≤ n → n < k → a.natAbs ≤ 9000000000000000000 → b.natAbs ≤ 9000000000000000000 → spec_l11Gcd.l0 k a b = some (Int.gcd a b : Int) := by
  intro n
  induction n with
  | zero =>
    intro k a b hb hk ha hB
    obtain ⟨k, rfl⟩ : ∃ m, k = m + 1 := ⟨k - 1, by omega⟩
    obtain rfl : b = 0 := by omega
    simp only [spec_l11Gcd.l0]
    rw [if_pos trivial, l3Abs_eq (by omega) (by omega), Option.bind_some, Int.gcd_zero_right]
  | succ n ih =>
    intro k a b hb hk ha hB
    obtain ⟨k, rfl⟩ : ∃ m, k = m + 1 := ⟨k - 1, by omega⟩
    simp only [spec_l11Gcd.l0]
    by_cases h : b = 0
    · subst h
      rw [if_pos rfl, l3Abs_eq (by omega) (by omega), Option.bind_some, Int.gcd_zero_right]
    · have := tmod_bd a b h
      rw [if_neg h, ih k b (a.tmod b) (by omega) (by omega) (by omega) (by omega), gcd_step a b h]
theorem impl_gcd_l0 : ∀ (n k : Nat) (a b : Int), b.natAbs ≤ n → n < k → 0 ≤ a → 0 ≤ b → impl_gcd.l0 k a b = some (Int.gcd a b : Int) := by
  intro n
  induction n with
  | zero =>
    intro k a b hb hk ha hB
    obtain ⟨k, rfl⟩ : ∃ m, k = m + 1 := ⟨k - 1, by omega⟩
    obtain rfl : b = 0 := by omega
    simp only [impl_gcd.l0]
    rw [if_pos trivial, Int.gcd_zero_right]
    congr 1
    omega
  | succ n ih =>
    intro k a b hb hk ha hB
    obtain ⟨k, rfl⟩ : ∃ m, k = m + 1 := ⟨k - 1, by omega⟩
    simp only [impl_gcd.l0]
    by_cases h : b = 0
    · subst h
      rw [if_pos rfl, Int.gcd_zero_right]
      congr 1
      omega
    · have := tmod_bd a b h
      rw [if_neg h, ih k b (a.tmod b) (by omega) (by omega) hB (Int.tmod_nonneg _ ha), gcd_step a b h]
theorem spec_gcd (a b : Int) (k : Nat) (hk : b.natAbs < k) (ha : a.natAbs ≤ 9000000000000000000) (hb : b.natAbs ≤ 9000000000000000000) : spec_l11Gcd.f k a b = some (Int.gcd a b : Int) := by
  unfold spec_l11Gcd.f
  exact spec_gcd_l0 _ k a b (Nat.le_refl _) hk ha hb
theorem impl_gcd_eq (a b : Int) (k : Nat) (hk : b.natAbs < k) (ha : a.natAbs ≤ 9000000000000000000) (hb : b.natAbs ≤ 9000000000000000000) : impl_gcd.f k a b = some (Int.gcd a b : Int) := by
  unfold impl_gcd.f
  rw [size_eq (by omega) (by omega), size_eq (by omega) (by omega), Option.bind_some, Option.bind_some, impl_gcd_l0 _ k _ _ (Nat.le_refl _) (by omega) (by omega) (by omega)]
  rfl
end Go.Proofs.Ytbnjcebmnamfjaa.L

namespace Go.Proofs.Ytbnjcebmnamfjaa.L
open Go.RowKit Go.Proofs.Ytbnjcebmnamfjaa.P Go.Proofs.Ytbnjcebmnamfjaa.Help Go.Proofs.YtbnjcebmnamfjaaW.PrintWords
set_option linter.unusedVariables false
set_option linter.unusedSimpArgs false

/-- A slope. -/
def isS (p q : Int) : Bool := decide ((-1000 ≤ p ∧ p ≤ 1000) ∧ (0 ≤ q ∧ q ≤ 1000) ∧ Int.gcd p q = 1 ∧ (q = 0 → p = 1))
theorem isS_true {p q : Int} (h : isS p q = true) : (-1000 ≤ p ∧ p ≤ 1000) ∧ (0 ≤ q ∧ q ≤ 1000) ∧ Int.gcd p q = 1 ∧ (q = 0 → p = 1) := of_decide_eq_true h
theorem spec_isS (p q : Int) (k : Nat) (hk : 1000 < k) : spec_IsSlope.f k p q = some (isS p q) := by
  unfold spec_IsSlope.f isS
  rw [l1In_eq, l1In_eq, Option.bind_some, Option.bind_some]
  by_cases h1 : -1000 ≤ p ∧ p ≤ 1000
  · by_cases h2 : 0 ≤ q ∧ q ≤ 1000
    · rw [if_pos (decide_eq_true h1), if_pos (decide_eq_true h2), spec_gcd p q k (by omega) (by omega) (by omega), Option.bind_some]
      by_cases h3 : q = 0
      · subst h3
        rw [if_pos rfl]
        by_cases h4 : p = 1
        · subst h4; rw [if_pos rfl]; decide
        · rw [if_neg h4]; simp [h4]
      · rw [if_neg h3]
        congr 1
        rw [Bool.eq_iff_iff]
        simp [h1, h2, h3]
        omega
    · rw [if_pos (decide_eq_true h1), if_neg (by simpa using h2)]
      congr 1
      symm
      rw [decide_eq_false_iff_not]
      exact fun h => h2 h.2.1
  · rw [if_neg (by simpa using h1)]
    congr 1
    symm
    rw [decide_eq_false_iff_not]
    exact fun h => h1 h.1
theorem impl_isS (p q : Int) (k : Nat) (hk : 1000 < k) : impl_IsSlope.f k p q = some (isS p q) := by
  unfold impl_IsSlope.f isS
  rw [within_eq, within_eq, Option.bind_some, Option.bind_some]
  by_cases h1 : -1000 ≤ p ∧ p ≤ 1000
  · by_cases h2 : 0 ≤ q ∧ q ≤ 1000
    · rw [if_pos (decide_eq_true h1), if_pos (decide_eq_true h2), impl_gcd_eq p q k (by omega) (by omega) (by omega), Option.bind_some]
      by_cases h5 : Int.gcd p q = 1
      · rw [if_pos (by omega)]
        by_cases h3 : q = 0
        · rw [if_neg (by omega)]
          congr 1
          rw [Bool.eq_iff_iff]
          simp [h1, h2, h3]
          intro h4
          subst h4
          decide
        · rw [if_pos (by omega)]
          congr 1
          symm
          rw [decide_eq_true_iff]
          exact ⟨h1, h2, h5, fun h => absurd h h3⟩
      · rw [if_neg (by omega)]
        congr 1
        symm
        rw [decide_eq_false_iff_not]
        exact fun h => h5 h.2.2.1
    · rw [if_pos (decide_eq_true h1), if_neg (by simpa using h2)]
      congr 1
      symm
      rw [decide_eq_false_iff_not]
      exact fun h => h2 h.2.1
  · rw [if_neg (by simpa using h1)]
    congr 1
    symm
    rw [decide_eq_false_iff_not]
    exact fun h => h1 h.1
end Go.Proofs.Ytbnjcebmnamfjaa.L

namespace Go.Proofs.Ytbnjcebmnamfjaa.L
open Go.RowKit Go.Proofs.Ytbnjcebmnamfjaa.P Go.Proofs.Ytbnjcebmnamfjaa.Help Go.Proofs.YtbnjcebmnamfjaaW.PrintWords
set_option linter.unusedVariables false
set_option linter.unusedSimpArgs false

def ba (l : List UInt8) : ByteArray := ⟨l.toArray⟩
theorem ba_size (l : List UInt8) : (ba l).size = l.length := by simp [ba, ByteArray.size]
theorem ba_append (l m : List UInt8) : ba l ++ ba m = ba (l ++ m) := by
  apply ByteArray.ext
  simp [ba, ByteArray.data_append]
/-- The turns that move 1 / 1 to a slope. -/
def tw : Nat → Int → Int → List UInt8
  | 0, _, _ => []
  | n + 1, p, q => if p = q then [] else if p > q then 82 :: tw n (p - q) q else 76 :: tw n p (q - p)
theorem spec_tw : ∀ (n k : Nat) (l : List UInt8) (p q : Int), 1 ≤ p → 1 ≤ q → p + q ≤ n → n < k → l.length + n ≤ 1000000000 → spec_TurnsTo.l0 k (ba l) p q = some (ba (if l.length + (tw n p q).length > 24 then [] else l ++ tw n p q)) := by
  intro n
  induction n with
  | zero => intro k l p q hp hq hn; omega
  | succ n ih =>
    intro k l p q hp hq hn hk hl
    obtain ⟨k, rfl⟩ : ∃ m, k = m + 1 := ⟨k - 1, by omega⟩
    unfold spec_TurnsTo.l0 tw
    rw [ba_size]
    by_cases h : p = q
    · rw [if_pos h, if_pos h]
      simp only [List.length_nil, Nat.add_zero, List.append_nil]
      by_cases h2 : l.length > 24
      · rw [if_pos (by omega), if_pos h2]; rfl
      · rw [if_neg (by omega), if_neg h2]
    · rw [if_neg h, if_neg h]
      by_cases h3 : p > q
      · rw [if_pos h3, if_pos h3, if_pos (by omega), w_id (by omega) (by omega), show (⟨#[82]⟩ : ByteArray) = ba [82] from rfl, ba_append, ih k _ _ _ (by omega) hq (by omega) (by omega) (by simp; omega)]
        simp only [List.length_append, List.length_cons, List.length_nil, List.append_assoc, List.cons_append, List.nil_append]
        rw [show l.length + (0 + 1) + (tw n (p - q) q).length = l.length + ((tw n (p - q) q).length + 1) by omega]
      · rw [if_neg h3, if_neg h3, if_pos (by omega), w_id (by omega) (by omega), show (⟨#[76]⟩ : ByteArray) = ba [76] from rfl, ba_append, ih k _ _ _ hp (by omega) (by omega) (by omega) (by simp; omega)]
        simp only [List.length_append, List.length_cons, List.length_nil, List.append_assoc, List.cons_append, List.nil_append]
        rw [show l.length + (0 + 1) + (tw n p (q - p)).length = l.length + ((tw n p (q - p)).length + 1) by omega]
theorem impl_tw : ∀ (n k : Nat) (l : List UInt8) (p q : Int), 1 ≤ p → 1 ≤ q → p + q ≤ n → n < k → n ≤ 1000000000 → l.length ≤ 24 → impl_TurnsTo.l0 k (ba l) p q = some (ba (if l.length + (tw n p q).length > 24 then [] else l ++ tw n p q)) := by
  intro n
  induction n with
  | zero => intro k l p q hp hq hn; omega
  | succ n ih =>
    intro k l p q hp hq hn hk hn2 hl
    obtain ⟨k, rfl⟩ : ∃ m, k = m + 1 := ⟨k - 1, by omega⟩
    unfold impl_TurnsTo.l0 tw
    rw [ba_size]
    by_cases h : p = q
    · rw [if_pos h, if_pos h]
      simp only [List.length_nil, Nat.add_zero, List.append_nil]
      rw [if_neg (by omega)]
    · rw [if_neg h, if_neg h]
      by_cases h4 : l.length = 24
      · rw [if_pos (by omega), if_pos (by split <;> simp <;> omega)]
        rfl
      · rw [if_neg (by omega)]
        by_cases h3 : p > q
        · rw [if_pos h3, if_pos h3, if_pos (by omega), w_id (by omega) (by omega), show (⟨#[82]⟩ : ByteArray) = ba [82] from rfl, ba_append, ih k _ _ _ (by omega) hq (by omega) (by omega) (by omega) (by simp; omega)]
          simp only [List.length_append, List.length_cons, List.length_nil, List.append_assoc, List.cons_append, List.nil_append]
          rw [show l.length + (0 + 1) + (tw n (p - q) q).length = l.length + ((tw n (p - q) q).length + 1) by omega]
        · rw [if_neg h3, if_neg h3, if_pos (by omega), w_id (by omega) (by omega), show (⟨#[76]⟩ : ByteArray) = ba [76] from rfl, ba_append, ih k _ _ _ hp (by omega) (by omega) (by omega) (by omega) (by simp; omega)]
          simp only [List.length_append, List.length_cons, List.length_nil, List.append_assoc, List.cons_append, List.nil_append]
          rw [show l.length + (0 + 1) + (tw n p (q - p)).length = l.length + ((tw n p (q - p)).length + 1) by omega]
def turnsToL (p q : Int) : List UInt8 := if isS p q = true ∧ 1 ≤ p ∧ 1 ≤ q then (if (tw 2000 p q).length > 24 then [] else tw 2000 p q) else []
theorem spec_turnsTo (p q : Int) (k : Nat) (hk : 2001 < k) : spec_TurnsTo.f k p q = some (ba (turnsToL p q)) := by
  obtain ⟨k, rfl⟩ : ∃ m, k = m + 1 := ⟨k - 1, by omega⟩
  unfold spec_TurnsTo.f turnsToL
  rw [spec_isS _ _ _ (by omega), Option.bind_some]
  by_cases h : isS p q = true
  · rw [if_pos h]
    by_cases h1 : p < 1
    · rw [if_pos h1, if_neg (fun h => by omega)]
      simp [spec_TurnsTo.j0, ba]
    · rw [if_neg h1]
      simp only [spec_TurnsTo.j0, decide_eq_true_eq]
      by_cases h2 : q < 1
      · rw [if_pos h2, if_neg (fun h => by omega)]
        rfl
      · rw [if_neg h2, if_pos ⟨h, by omega, by omega⟩]
        obtain ⟨b1, b2, _⟩ := isS_true h
        have := spec_tw 2000 k [] p q (by omega) (by omega) (by omega) (by omega) (by simp)
        simpa [ba] using this
  · rw [if_neg h, if_neg (fun h' => h h'.1)]
    simp [spec_TurnsTo.j0, ba]
theorem impl_turnsTo (p q : Int) (k : Nat) (hk : 2001 < k) : impl_TurnsTo.f k p q = some (ba (turnsToL p q)) := by
  obtain ⟨k, rfl⟩ : ∃ m, k = m + 1 := ⟨k - 1, by omega⟩
  unfold impl_TurnsTo.f turnsToL
  rw [impl_isS _ _ _ (by omega), Option.bind_some]
  by_cases h : isS p q = true
  · rw [if_pos h]
    by_cases h1 : p < 1
    · rw [if_pos h1, if_neg (fun h => by omega)]
      simp [impl_TurnsTo.j0, ba]
    · rw [if_neg h1]
      simp only [impl_TurnsTo.j0, decide_eq_true_eq]
      by_cases h2 : q < 1
      · rw [if_pos h2, if_neg (fun h => by omega)]
        rfl
      · rw [if_neg h2, if_pos ⟨h, by omega, by omega⟩]
        obtain ⟨b1, b2, _⟩ := isS_true h
        have := impl_tw 2000 k [] p q (by omega) (by omega) (by omega) (by omega) (by omega) (by simp)
        simpa [ba] using this
  · rw [if_neg h, if_neg (fun h' => h h'.1)]
    simp [impl_TurnsTo.j0, ba]
end Go.Proofs.Ytbnjcebmnamfjaa.L

namespace Go.Proofs.Ytbnjcebmnamfjaa.L
open Go.RowKit Go.Proofs.Ytbnjcebmnamfjaa.P Go.Proofs.Ytbnjcebmnamfjaa.Help Go.Proofs.YtbnjcebmnamfjaaW.PrintWords
set_option linter.unusedVariables false
set_option linter.unusedSimpArgs false

def sm (x : Int) : Bool := decide (-1000 ≤ x ∧ x ≤ 1000)
theorem fits_l0 (xs : List Int) (hx : xs.length ≤ 1000000) : ∀ (d k i : Nat), i + d = xs.length → d < k → spec_l11Fits.l0 k xs (i : Int) = some ((xs.drop i).all sm) := by
  intro d
  induction d with
  | zero =>
    intro k i hi hk
    obtain ⟨k, rfl⟩ : ∃ m, k = m + 1 := ⟨k - 1, by omega⟩
    simp only [spec_l11Fits.l0]
    rw [if_neg (by omega), List.drop_of_length_le (by omega)]
    rfl
  | succ d ih =>
    intro k i hi hk
    obtain ⟨k, rfl⟩ : ∃ m, k = m + 1 := ⟨k - 1, by omega⟩
    have hlt : i < xs.length := by omega
    simp only [spec_l11Fits.l0]
    rw [if_pos (by omega), if_pos (by omega), l1In_eq, Option.bind_some, w_id (by omega) (by omega), show ((i : Int) + 1) = ((i + 1 : Nat) : Int) by omega, ih k (i + 1) (by omega) (by omega), List.drop_eq_getElem_cons hlt, List.all_cons, rd_nat xs i hlt]
    unfold sm
    by_cases h : -1000 ≤ xs[i] ∧ xs[i] ≤ 1000 <;> simp [h]
theorem areSmall_l0 (xs : List Int) (hx : xs.length ≤ 1000000) : ∀ (d k i : Nat), i + d = xs.length → d < k → impl_areSmall.l0 k xs (xs.length : Int) (i : Int) = some ((xs.drop i).all sm) := by
  intro d
  induction d with
  | zero =>
    intro k i hi hk
    obtain ⟨k, rfl⟩ : ∃ m, k = m + 1 := ⟨k - 1, by omega⟩
    simp only [impl_areSmall.l0]
    rw [if_neg (by omega), List.drop_of_length_le (by omega)]
    rfl
  | succ d ih =>
    intro k i hi hk
    obtain ⟨k, rfl⟩ : ∃ m, k = m + 1 := ⟨k - 1, by omega⟩
    have hlt : i < xs.length := by omega
    simp only [impl_areSmall.l0]
    rw [if_pos (by omega), if_pos (by omega), if_pos (by omega), within_eq, Option.bind_some, w_id (by omega) (by omega), show ((i : Int) + 1) = ((i + 1 : Nat) : Int) by omega, ih k (i + 1) (by omega) (by omega), List.drop_eq_getElem_cons hlt, List.all_cons, rd_nat xs i hlt]
    unfold sm
    by_cases h : -1000 ≤ xs[i] ∧ xs[i] ≤ 1000 <;> simp [h]
/-- A matrix: four small numbers, the determinant 1. -/
def isM (a b c d : Int) : Bool := decide ((-1000 ≤ a ∧ a ≤ 1000) ∧ (-1000 ≤ b ∧ b ≤ 1000) ∧ (-1000 ≤ c ∧ c ≤ 1000) ∧ (-1000 ≤ d ∧ d ≤ 1000) ∧ a * d - b * c = 1)
theorem isM_true {a b c d : Int} (h : isM a b c d = true) : (-1000 ≤ a ∧ a ≤ 1000) ∧ (-1000 ≤ b ∧ b ≤ 1000) ∧ (-1000 ≤ c ∧ c ≤ 1000) ∧ (-1000 ≤ d ∧ d ≤ 1000) ∧ a * d - b * c = 1 := of_decide_eq_true h
theorem det_w {a b c d : Int} (ha : -1000 ≤ a ∧ a ≤ 1000) (hb : -1000 ≤ b ∧ b ≤ 1000) (hc : -1000 ≤ c ∧ c ≤ 1000) (hd : -1000 ≤ d ∧ d ≤ 1000) : wrap64 ((wrap64 (a * d)) - (wrap64 (b * c))) = a * d - b * c := by
  have h1 := mulb ha.1 ha.2 hd.1 hd.2
  have h2 := mulb hb.1 hb.2 hc.1 hc.2
  rw [w_id (a := a * d) (by omega) (by omega), w_id (a := b * c) (by omega) (by omega), w_id (by omega) (by omega)]
theorem four_all (a b c d : Int) : ([a, b, c, d].all sm) = decide ((-1000 ≤ a ∧ a ≤ 1000) ∧ (-1000 ≤ b ∧ b ≤ 1000) ∧ (-1000 ≤ c ∧ c ≤ 1000) ∧ (-1000 ≤ d ∧ d ≤ 1000)) := by
  rw [Bool.eq_iff_iff]
  simp [List.all_cons, sm]
theorem isM_of {a b c d : Int} {t : Bool} (ht : t = decide ((-1000 ≤ a ∧ a ≤ 1000) ∧ (-1000 ≤ b ∧ b ≤ 1000) ∧ (-1000 ≤ c ∧ c ≤ 1000) ∧ (-1000 ≤ d ∧ d ≤ 1000))) :
    (if t = true then (some ((wrap64 ((wrap64 (a * d)) - (wrap64 (b * c)))) == 1)) else (some false)) = some (isM a b c d) := by
  subst ht
  by_cases h : (-1000 ≤ a ∧ a ≤ 1000) ∧ (-1000 ≤ b ∧ b ≤ 1000) ∧ (-1000 ≤ c ∧ c ≤ 1000) ∧ (-1000 ≤ d ∧ d ≤ 1000)
  · rw [if_pos (decide_eq_true h), det_w h.1 h.2.1 h.2.2.1 h.2.2.2]
    unfold isM
    congr 1
    rw [Bool.eq_iff_iff]
    simp [h]
  · rw [if_neg (by simpa using h)]
    unfold isM
    congr 1
    symm
    rw [decide_eq_false_iff_not]
    rintro ⟨h1, h2, h3, h4, _⟩
    exact h ⟨h1, h2, h3, h4⟩
theorem spec_isM (a b c d : Int) (k : Nat) (hk : 4 < k) : spec_IsMatrix.f k a b c d = some (isM a b c d) := by
  unfold spec_IsMatrix.f spec_l11Fits.f
  rw [show (0 : Int) = ((0 : Nat) : Int) from rfl, fits_l0 _ (by simp) 4 k 0 (by simp) hk, Option.bind_some, List.drop_zero]
  exact isM_of (four_all a b c d)
theorem impl_isM (a b c d : Int) (k : Nat) (hk : 4 < k) : impl_IsMatrix.f k a b c d = some (isM a b c d) := by
  unfold impl_IsMatrix.f impl_areSmall.f
  rw [show (0 : Int) = ((0 : Nat) : Int) from rfl, areSmall_l0 _ (by simp) 4 k 0 (by simp) hk, Option.bind_some, List.drop_zero]
  exact isM_of (four_all a b c d)
end Go.Proofs.Ytbnjcebmnamfjaa.L

namespace Go.Proofs.Ytbnjcebmnamfjaa.L
open Go.RowKit Go.Proofs.Ytbnjcebmnamfjaa.P Go.Proofs.Ytbnjcebmnamfjaa.Help Go.Proofs.YtbnjcebmnamfjaaW.PrintWords
set_option linter.unusedVariables false
set_option linter.unusedSimpArgs false

/-- The product of two matrices, if it is one. -/
def timesR (a b c d e f g h : Int) : Int × Int × Int × Int × Bool :=
  if isM a b c d = true ∧ isM e f g h = true ∧ isM (a * e + b * g) (a * f + b * h) (c * e + d * g) (c * f + d * h) = true then (a * e + b * g, a * f + b * h, c * e + d * g, c * f + d * h, true) else (0, 0, 0, 0, false)
theorem dot_w {a b e g : Int} (ha : -1000 ≤ a ∧ a ≤ 1000) (hb : -1000 ≤ b ∧ b ≤ 1000) (he : -1000 ≤ e ∧ e ≤ 1000) (hg : -1000 ≤ g ∧ g ≤ 1000) : wrap64 ((wrap64 (a * e)) + (wrap64 (b * g))) = a * e + b * g := by
  have h1 := mulb ha.1 ha.2 he.1 he.2
  have h2 := mulb hb.1 hb.2 hg.1 hg.2
  rw [w_id (a := a * e) (by omega) (by omega), w_id (a := b * g) (by omega) (by omega), w_id (by omega) (by omega)]
theorem spec_prod {a b c d e f g h : Int} (ha : -1000 ≤ a ∧ a ≤ 1000) (hb : -1000 ≤ b ∧ b ≤ 1000) (hc : -1000 ≤ c ∧ c ≤ 1000) (hd : -1000 ≤ d ∧ d ≤ 1000) (he : -1000 ≤ e ∧ e ≤ 1000) (hf : -1000 ≤ f ∧ f ≤ 1000) (hg : -1000 ≤ g ∧ g ≤ 1000) (hh : -1000 ≤ h ∧ h ≤ 1000) :
    spec_l13Times.f a b c d e f g h = some (a * e + b * g, a * f + b * h, c * e + d * g, c * f + d * h) := by
  unfold spec_l13Times.f
  rw [dot_w ha hb he hg, dot_w ha hb hf hh, dot_w hc hd he hg, dot_w hc hd hf hh]
theorem spec_times (a b c d e f g h : Int) (k : Nat) (hk : 4 < k) : spec_TimesMatrix.f k a b c d e f g h = some (timesR a b c d e f g h) := by
  unfold spec_TimesMatrix.f timesR
  rw [spec_isM _ _ _ _ _ hk, spec_isM _ _ _ _ _ hk, Option.bind_some, Option.bind_some]
  by_cases h1 : isM a b c d = true
  · rw [if_pos h1]
    by_cases h2 : isM e f g h = true
    · rw [if_pos h2]
      obtain ⟨ha, hb, hc, hd, _⟩ := isM_true h1
      obtain ⟨he, hf, hg, hh, _⟩ := isM_true h2
      rw [spec_prod ha hb hc hd he hf hg hh]
      simp only [Option.bind_some]
      rw [spec_isM _ _ _ _ _ hk, Option.bind_some]
      simp only [h1, h2, true_and]
      split <;> rfl
    · rw [if_neg h2, if_neg (fun h => h2 h.2.1)]
  · rw [if_neg h1, if_neg (fun h => h1 h.1)]
theorem impl_times (a b c d e f g h : Int) (k : Nat) (hk : 5 < k) : impl_TimesMatrix.f k a b c d e f g h = some (timesR a b c d e f g h) := by
  unfold impl_TimesMatrix.f timesR
  rw [impl_isM _ _ _ _ _ (by omega), impl_isM _ _ _ _ _ (by omega), Option.bind_some, Option.bind_some]
  obtain ⟨k, rfl⟩ : ∃ m, k = m + 1 := ⟨k - 1, by omega⟩
  simp only [impl_TimesMatrix.j0]
  by_cases h1 : isM a b c d = true
  · rw [if_pos h1]
    by_cases h2 : isM e f g h = true
    · obtain ⟨ha, hb, hc, hd, _⟩ := isM_true h1
      obtain ⟨he, hf, hg, hh, _⟩ := isM_true h2
      rw [dot_w ha hb he hg, dot_w ha hb hf hh, dot_w hc hd he hg, dot_w hc hd hf hh, impl_isM _ _ _ _ _ (by omega), Option.bind_some]
      simp only [h1, h2, true_and, Bool.not_true, Bool.false_eq_true, if_false]
      split <;> rfl
    · rw [if_pos (by simpa using h2), if_neg (fun h => h2 h.2.1)]
  · rw [if_neg h1, if_pos trivial, if_neg (fun h => h1 h.1)]
end Go.Proofs.Ytbnjcebmnamfjaa.L

namespace Go.Proofs.Ytbnjcebmnamfjaa.L
open Go.RowKit Go.Proofs.Ytbnjcebmnamfjaa.P Go.Proofs.Ytbnjcebmnamfjaa.Help Go.Proofs.YtbnjcebmnamfjaaW.PrintWords
set_option linter.unusedVariables false
set_option linter.unusedSimpArgs false

def turnM (x : Int) : Int × Int × Int × Int := if x = 82 then (1, 1, 0, 1) else if x = 76 then (1, 0, 1, 1) else if x = 114 then (1, -1, 0, 1) else if x = 108 then (1, 0, -1, 1) else (0, 0, 0, 0)
theorem spec_turn (x : Int) : spec_l13Turn.f x = some (turnM x) := by
  unfold spec_l13Turn.f turnM
  repeat' split
  all_goals rfl
/-- The product of the turns of a text from a place on. -/
def tofI (s : ByteArray) : Nat → Nat → Int → Int → Int → Int → Int × Int × Int × Int × Bool
  | 0, _, a, b, c, d => (a, b, c, d, true)
  | n + 1, i, a, b, c, d =>
    if (timesR a b c d (turnM (bt s i)).1 (turnM (bt s i)).2.1 (turnM (bt s i)).2.2.1 (turnM (bt s i)).2.2.2).2.2.2.2 = true then
      tofI s n (i + 1) (timesR a b c d (turnM (bt s i)).1 (turnM (bt s i)).2.1 (turnM (bt s i)).2.2.1 (turnM (bt s i)).2.2.2).1 (timesR a b c d (turnM (bt s i)).1 (turnM (bt s i)).2.1 (turnM (bt s i)).2.2.1 (turnM (bt s i)).2.2.2).2.1 (timesR a b c d (turnM (bt s i)).1 (turnM (bt s i)).2.1 (turnM (bt s i)).2.2.1 (turnM (bt s i)).2.2.2).2.2.1 (timesR a b c d (turnM (bt s i)).1 (turnM (bt s i)).2.1 (turnM (bt s i)).2.2.1 (turnM (bt s i)).2.2.2).2.2.2.1
    else (0, 0, 0, 0, false)
theorem spec_tofI (s : ByteArray) (hs : s.size ≤ 24) : ∀ (n k i : Nat) (a b c d : Int), i + n = s.size → 2 * n + 8 < k → spec_TurnsOf.l0 k s (i : Int) a b c d = some (tofI s n i a b c d) := by
  intro n
  induction n with
  | zero =>
    intro k i a b c d hi hk
    obtain ⟨k, rfl⟩ : ∃ m, k = m + 2 := ⟨k - 2, by omega⟩
    simp only [spec_TurnsOf.l0, spec_TurnsOf.j1, tofI]
    rw [if_neg (by omega), if_neg (by decide), if_neg (by omega)]
  | succ n ih =>
    intro k i a b c d hi hk
    obtain ⟨k, rfl⟩ : ∃ m, k = m + 2 := ⟨k - 2, by omega⟩
    simp only [spec_TurnsOf.l0, spec_TurnsOf.j1, tofI]
    rw [if_pos (by omega), if_pos (decide_eq_true (by omega)), if_pos (by omega), if_pos (by omega), spec_turn, Option.bind_some, spec_times _ _ _ _ _ _ _ _ _ (by omega), Option.bind_some]
    split
    · rw [w_id (by omega) (by omega), show ((i : Int) + 1) = ((i + 1 : Nat) : Int) by omega, ih k (i + 1) _ _ _ _ (by omega) (by omega)]
    · rfl
theorem impl_turn (x : Int) : (impl_turnOf.f x = some ((turnM x).1, (turnM x).2.1, (turnM x).2.2.1, (turnM x).2.2.2, true)) ∨ (impl_turnOf.f x = some (0, 0, 0, 0, false) ∧ turnM x = (0, 0, 0, 0)) := by
  unfold impl_turnOf.f turnM
  by_cases h1 : x = 82
  · left; simp [h1]
  · by_cases h2 : x = 76
    · left; simp [h2]
    · by_cases h3 : x = 114
      · left; simp [h3]
      · by_cases h4 : x = 108
        · left; simp [h4]
        · right; simp [h1, h2, h3, h4]
theorem timesR_zero (a b c d : Int) : timesR a b c d 0 0 0 0 = (0, 0, 0, 0, false) := by
  unfold timesR
  rw [if_neg (fun h => absurd h.2.1 (by decide))]
theorem impl_tofI (s : ByteArray) (hs : s.size ≤ 24) : ∀ (n k i : Nat) (a b c d : Int), i + n = s.size → n + 8 < k → impl_TurnsOf.l0 k s (s.size : Int) (i : Int) a b c d = some (tofI s n i a b c d) := by
  intro n
  induction n with
  | zero =>
    intro k i a b c d hi hk
    obtain ⟨k, rfl⟩ : ∃ m, k = m + 1 := ⟨k - 1, by omega⟩
    simp only [impl_TurnsOf.l0, tofI]
    rw [if_neg (by omega)]
  | succ n ih =>
    intro k i a b c d hi hk
    obtain ⟨k, rfl⟩ : ∃ m, k = m + 1 := ⟨k - 1, by omega⟩
    simp only [impl_TurnsOf.l0, tofI]
    rw [if_pos (by omega), if_pos (by omega), if_pos (by omega)]
    rcases impl_turn (bt s i) with h | ⟨h, h2⟩
    · rw [h, Option.bind_some]
      simp only
      rw [if_pos trivial, impl_times _ _ _ _ _ _ _ _ _ (by omega), Option.bind_some]
      split
      · rw [w_id (by omega) (by omega), show ((i : Int) + 1) = ((i + 1 : Nat) : Int) by omega, ih k (i + 1) _ _ _ _ (by omega) (by omega)]
      · rfl
    · rw [h, h2, Option.bind_some]
      simp only [timesR_zero]
      simp
def turnsOfR (s : ByteArray) : Int × Int × Int × Int × Bool := if s.size > 24 then (0, 0, 0, 0, false) else tofI s s.size 0 1 0 0 1
theorem spec_turnsOf (s : ByteArray) (hsz : s.size ≤ 9000000000000000000) (k : Nat) (hk : 60 < k) : spec_TurnsOf.f k s = some (turnsOfR s) := by
  unfold spec_TurnsOf.f turnsOfR
  by_cases h : s.size > 24
  · rw [if_pos h]
    obtain ⟨k, rfl⟩ : ∃ m, k = m + 2 := ⟨k - 2, by omega⟩
    simp only [spec_TurnsOf.l0, spec_TurnsOf.j1]
    rw [if_pos (by omega), if_neg (by simp; omega), if_pos (by omega)]
  · rw [if_neg h]
    exact spec_tofI s (by omega) s.size k 0 1 0 0 1 (by omega) (by omega)
theorem impl_turnsOf (s : ByteArray) (hsz : s.size ≤ 9000000000000000000) (k : Nat) (hk : 60 < k) : impl_TurnsOf.f k s = some (turnsOfR s) := by
  unfold impl_TurnsOf.f turnsOfR impl_one.f
  by_cases h : s.size > 24
  · rw [if_pos h, if_pos (by omega)]
  · rw [if_neg h, if_neg (by omega), Option.bind_some]
    exact impl_tofI s (by omega) s.size k 0 1 0 0 1 (by omega) (by omega)
end Go.Proofs.Ytbnjcebmnamfjaa.L

namespace Go.Proofs.Ytbnjcebmnamfjaa.L
open Go.RowKit Go.Proofs.Ytbnjcebmnamfjaa.P Go.Proofs.Ytbnjcebmnamfjaa.Help Go.Proofs.YtbnjcebmnamfjaaW.PrintWords
set_option linter.unusedVariables false
set_option linter.unusedSimpArgs false

/-- The slope of two numbers. -/
def slopeR (p q : Int) : Int × Int × Bool :=
  if (-1000 ≤ p ∧ p ≤ 1000) ∧ (-1000 ≤ q ∧ q ≤ 1000) ∧ ¬ (p = 0 ∧ q = 0) then
    if q < 0 ∨ (q = 0 ∧ p < 0) then (-(p.tdiv (Int.gcd p q)), -(q.tdiv (Int.gcd p q)), true) else (p.tdiv (Int.gcd p q), q.tdiv (Int.gcd p q), true)
  else (0, 0, false)
/-- Two numbers by their greatest common divisor. -/
theorem parts (p q : Int) (h : ¬ (p = 0 ∧ q = 0)) : ∃ g m n : Int, 0 < g ∧ (Int.gcd p q : Int) = g ∧ p = g * m ∧ q = g * n ∧ p.tdiv g = m ∧ q.tdiv g = n ∧ (n < 0 ↔ q < 0) ∧ (n = 0 ↔ q = 0) ∧ (m < 0 ↔ p < 0) ∧ (m = 0 ↔ p = 0) ∧ m.natAbs ≤ p.natAbs ∧ n.natAbs ≤ q.natAbs := by
  have hg : 0 < (Int.gcd p q : Int) := by
    have : Int.gcd p q ≠ 0 := fun h0 => h (Int.gcd_eq_zero_iff.1 h0)
    omega
  obtain ⟨m, hm⟩ := Int.gcd_dvd_left (a := p) (b := q)
  obtain ⟨n, hn⟩ := Int.gcd_dvd_right (a := p) (b := q)
  have sgn : ∀ x y : Int, y = (Int.gcd p q : Int) * x → (x < 0 ↔ y < 0) ∧ (x = 0 ↔ y = 0) ∧ x.natAbs ≤ y.natAbs ∧ y.tdiv (Int.gcd p q : Int) = x := by
    intro x y hy
    refine ⟨?_, ?_, ?_, ?_⟩
    · constructor
      · intro hx; rw [hy]; exact Int.mul_neg_of_pos_of_neg hg hx
      · intro hlt
        rcases Int.lt_or_le x 0 with hx | hx
        · exact hx
        · have := Int.mul_nonneg (Int.le_of_lt hg) hx
          omega
    · constructor
      · intro hx; rw [hy, hx, Int.mul_zero]
      · intro h0
        rw [hy] at h0
        rcases Int.mul_eq_zero.1 h0 with h1 | h1
        · omega
        · exact h1
    · rw [hy, Int.natAbs_mul]
      exact Nat.le_mul_of_pos_left _ (by omega)
    · rw [hy, Int.mul_tdiv_cancel_left _ (by omega)]
  obtain ⟨a1, a2, a3, a4⟩ := sgn m p hm
  obtain ⟨b1, b2, b3, b4⟩ := sgn n q hn
  exact ⟨_, m, n, hg, rfl, hm, hn, a4, b4, b1, b2, a1, a2, a3, b3⟩
theorem slopeR_no {p q : Int} (h : ¬ ((-1000 ≤ p ∧ p ≤ 1000) ∧ (-1000 ≤ q ∧ q ≤ 1000) ∧ ¬ (p = 0 ∧ q = 0))) : slopeR p q = (0, 0, false) := by
  unfold slopeR
  rw [if_neg h]
theorem slopeR_yes {p q : Int} (h : (-1000 ≤ p ∧ p ≤ 1000) ∧ (-1000 ≤ q ∧ q ≤ 1000) ∧ ¬ (p = 0 ∧ q = 0)) : slopeR p q = if q < 0 ∨ (q = 0 ∧ p < 0) then (-(p.tdiv (Int.gcd p q)), -(q.tdiv (Int.gcd p q)), true) else (p.tdiv (Int.gcd p q), q.tdiv (Int.gcd p q), true) := by
  unfold slopeR
  rw [if_pos h]
theorem spec_slope (p q : Int) (k : Nat) (hk : 1001 < k) : spec_SlopeOf.f k p q = some (slopeR p q) := by
  obtain ⟨k, rfl⟩ : ∃ m, k = m + 1 := ⟨k - 1, by omega⟩
  unfold spec_SlopeOf.f
  rw [l1In_eq, l1In_eq, Option.bind_some, Option.bind_some]
  by_cases h1 : -1000 ≤ p ∧ p ≤ 1000
  · by_cases h2 : -1000 ≤ q ∧ q ≤ 1000
    · rw [if_pos (decide_eq_true h1), if_pos (decide_eq_true h2)]
      by_cases h3 : p = 0 ∧ q = 0
      · rw [slopeR_no (fun h => h.2.2 h3)]
        obtain ⟨rfl, rfl⟩ := h3
        simp [spec_SlopeOf.j0]
      · rw [slopeR_yes ⟨h1, h2, h3⟩]
        have hj : (if p = 0 then spec_SlopeOf.j0 (k + 1) p q (q == 0) else spec_SlopeOf.j0 (k + 1) p q false) = spec_SlopeOf.j0 (k + 1) p q false := by
          split
          · rename_i h4
            rw [show (q == 0) = false from by simpa using fun h5 => h3 ⟨h4, h5⟩]
          · rfl
        rw [hj]
        simp only [spec_SlopeOf.j0]
        rw [if_neg (by decide), spec_gcd p q k (by omega) (by omega) (by omega), Option.bind_some]
        obtain ⟨g, m, n, hg, hge, hp, hq, dm, dn, s1, s2, s3, s4, b1, b2⟩ := parts p q h3
        rw [hge]
        have hgb : g ≤ 1000 := by
          have h5 : g.natAbs ≤ 1000 := by
            by_cases h0 : p = 0
            · have : q ≠ 0 := fun h => h3 ⟨h0, h⟩
              have h6 : q.natAbs = g.natAbs * n.natAbs := by rw [hq, Int.natAbs_mul]
              have h7 : 0 < n.natAbs := by omega
              have := Nat.le_mul_of_pos_right g.natAbs h7
              omega
            · have h6 : p.natAbs = g.natAbs * m.natAbs := by rw [hp, Int.natAbs_mul]
              have h7 : 0 < m.natAbs := by omega
              have := Nat.le_mul_of_pos_right g.natAbs h7
              omega
          omega
        rw [w_id (a := -g) (by omega) (by omega), Int.tdiv_neg, Int.tdiv_neg, dm, dn, w_id (a := m) (by omega) (by omega), w_id (a := n) (by omega) (by omega), w_id (a := -m) (by omega) (by omega), w_id (a := -n) (by omega) (by omega)]
        by_cases c1 : q < 0
        · rw [if_pos c1, if_neg (by omega), if_pos (.inl c1)]
        · rw [if_neg c1]
          by_cases c2 : q = 0
          · rw [if_pos c2]
            by_cases c3 : p < 0
            · rw [if_pos c3, if_neg (by omega), if_pos (.inr ⟨c2, c3⟩)]
            · rw [if_neg c3, if_neg (by omega), if_neg (by omega)]
          · rw [if_neg c2, if_neg (by omega), if_neg (by omega)]
    · rw [if_pos (decide_eq_true h1), if_neg (by simpa using h2), slopeR_no (fun h => h2 h.2.1)]
      simp [spec_SlopeOf.j0]
  · rw [if_neg (by simpa using h1), slopeR_no (fun h => h1 h.1)]
    simp [spec_SlopeOf.j0]
theorem slopeR_ok {p q : Int} (h1 : -1000 ≤ p ∧ p ≤ 1000) (h2 : -1000 ≤ q ∧ q ≤ 1000) (h3 : ¬ (p = 0 ∧ q = 0)) : (slopeR p q).2.2 = true := by
  unfold slopeR
  rw [if_pos ⟨h1, h2, h3⟩]
  split <;> rfl
theorem impl_lowest_eq (p q : Int) (k : Nat) (hk : 1000 < k) (h1 : -1000 ≤ p ∧ p ≤ 1000) (h2 : -1000 ≤ q ∧ q ≤ 1000) (h3 : ¬ (p = 0 ∧ q = 0)) : impl_lowest.f k p q = some ((slopeR p q).1, (slopeR p q).2.1) := by
  unfold impl_lowest.f
  rw [slopeR_yes ⟨h1, h2, h3⟩, impl_gcd_eq p q k (by omega) (by omega) (by omega), Option.bind_some]
  obtain ⟨g, m, n, hg, hge, hp, hq, dm, dn, s1, s2, s3, s4, b1, b2⟩ := parts p q h3
  rw [hge, dm, dn, if_neg (by omega), w_id (a := m) (by omega) (by omega), w_id (a := n) (by omega) (by omega), w_id (a := -m) (by omega) (by omega), w_id (a := -n) (by omega) (by omega)]
  by_cases c1 : q < 0
  · rw [if_pos (s1.2 c1), if_pos (.inl c1)]
  · rw [if_neg (fun h => c1 (s1.1 h))]
    by_cases c2 : q = 0
    · rw [if_pos (s2.2 c2)]
      by_cases c3 : p < 0
      · rw [if_pos (s3.2 c3), if_pos (.inr ⟨c2, c3⟩)]
      · rw [if_neg (fun h => c3 (s3.1 h)), if_neg (by omega)]
    · rw [if_neg (fun h => c2 (s2.1 h)), if_neg (by omega)]
theorem impl_slope (p q : Int) (k : Nat) (hk : 1000 < k) : impl_SlopeOf.f k p q = some (slopeR p q) := by
  unfold impl_SlopeOf.f
  rw [within_eq, within_eq, Option.bind_some, Option.bind_some]
  by_cases h3 : p = 0 ∧ q = 0
  · obtain ⟨rfl, rfl⟩ := h3
    rw [if_pos rfl, if_pos rfl]
    simp [slopeR]
  · have key : (if decide (-1000 ≤ p ∧ p ≤ 1000) = true then (if decide (-1000 ≤ q ∧ q ≤ 1000) = true then ((impl_lowest.f k p q).bind fun b => (some (b.1, b.2, true))) else (some (0, 0, false))) else (some (0, 0, false))) = some (slopeR p q) := by
      by_cases h1 : -1000 ≤ p ∧ p ≤ 1000
      · by_cases h2 : -1000 ≤ q ∧ q ≤ 1000
        · rw [if_pos (decide_eq_true h1), if_pos (decide_eq_true h2), impl_lowest_eq p q k hk h1 h2 h3, Option.bind_some]
          have := slopeR_ok h1 h2 h3
          congr 1
          rw [← this]
        · rw [if_pos (decide_eq_true h1), if_neg (by simpa using h2)]
          rw [slopeR_no (fun h => h2 h.2.1)]
      · rw [if_neg (by simpa using h1)]
        rw [slopeR_no (fun h => h1 h.1)]
    by_cases h0 : p = 0
    · rw [if_pos h0, if_neg (fun h => h3 ⟨h0, h⟩)]
      exact key
    · rw [if_neg h0]
      exact key
theorem slopeR_zero : slopeR 0 0 = (0, 0, false) := by simp [slopeR]
end Go.Proofs.Ytbnjcebmnamfjaa.L

namespace Go.Proofs.Ytbnjcebmnamfjaa.L
open Go.RowKit Go.Proofs.Ytbnjcebmnamfjaa.P Go.Proofs.Ytbnjcebmnamfjaa.Help Go.Proofs.YtbnjcebmnamfjaaW.PrintWords
set_option linter.unusedVariables false
set_option linter.unusedSimpArgs false

def moveR (a b c d p q : Int) : Int × Int × Bool := if isM a b c d = true ∧ isS p q = true then slopeR (a * p + b * q) (c * p + d * q) else (0, 0, false)
theorem spec_move (a b c d p q : Int) (k : Nat) (hk : 1001 < k) : spec_MoveSlope.f k a b c d p q = some (moveR a b c d p q) := by
  unfold spec_MoveSlope.f moveR
  rw [spec_isM _ _ _ _ _ (by omega), spec_isS _ _ _ (by omega), Option.bind_some, Option.bind_some]
  by_cases h : isM a b c d = true
  · rw [if_pos h]
    by_cases h2 : isS p q = true
    · obtain ⟨ha, hb, hc, hd, _⟩ := isM_true h
      obtain ⟨hp, hq, _⟩ := isS_true h2
      rw [if_pos h2, if_pos ⟨h, h2⟩, dot_w ha hb hp (by omega), dot_w hc hd hp (by omega), spec_slope _ _ _ hk]
      rfl
    · rw [if_neg h2, if_neg (fun h => h2 h.2)]
  · rw [if_neg h, if_neg (fun h' => h h'.1)]
theorem impl_move (a b c d p q : Int) (k : Nat) (hk : 1001 < k) : impl_MoveSlope.f k a b c d p q = some (moveR a b c d p q) := by
  unfold impl_MoveSlope.f moveR
  rw [impl_isM _ _ _ _ _ (by omega), impl_isS _ _ _ (by omega), Option.bind_some, Option.bind_some]
  by_cases h : isM a b c d = true
  · rw [if_pos h]
    by_cases h2 : isS p q = true
    · obtain ⟨ha, hb, hc, hd, _⟩ := isM_true h
      obtain ⟨hp, hq, _⟩ := isS_true h2
      rw [if_pos h2, if_pos ⟨h, h2⟩, dot_w ha hb hp (by omega), dot_w hc hd hp (by omega), impl_slope _ _ _ (by omega)]
      rfl
    · rw [if_neg h2, if_neg (fun h => h2 h.2)]
  · rw [if_neg h, if_neg (fun h' => h h'.1)]
end Go.Proofs.Ytbnjcebmnamfjaa.L

namespace Go.Proofs.Ytbnjcebmnamfjaa.L
open Go.RowKit Go.Proofs.Ytbnjcebmnamfjaa.P Go.Proofs.Ytbnjcebmnamfjaa.Help Go.Proofs.YtbnjcebmnamfjaaW.PrintWords
set_option linter.unusedVariables false
set_option linter.unusedSimpArgs false

/-- How often two slopes cross. -/
def crossR (p q r s : Int) : Int := if isS p q = true ∧ isS r s = true then ((p * s - q * r).natAbs : Int) else -1
theorem cross_w {p q r s : Int} (hp : -1000 ≤ p ∧ p ≤ 1000) (hq : -1000 ≤ q ∧ q ≤ 1000) (hr : -1000 ≤ r ∧ r ≤ 1000) (hs : -1000 ≤ s ∧ s ≤ 1000) : wrap64 ((wrap64 (p * s)) - (wrap64 (q * r))) = p * s - q * r ∧ -2000000 ≤ p * s - q * r ∧ p * s - q * r ≤ 2000000 := by
  have h1 := mulb hp.1 hp.2 hs.1 hs.2
  have h2 := mulb hq.1 hq.2 hr.1 hr.2
  rw [w_id (a := p * s) (by omega) (by omega), w_id (a := q * r) (by omega) (by omega), w_id (by omega) (by omega)]
  omega
theorem spec_cross (p q r s : Int) (k : Nat) (hk : 1000 < k) : spec_CrossNumber.f k p q r s = some (crossR p q r s) := by
  unfold spec_CrossNumber.f crossR
  rw [spec_isS _ _ _ hk, spec_isS _ _ _ hk, Option.bind_some, Option.bind_some]
  by_cases h : isS p q = true
  · rw [if_pos h]
    by_cases h2 : isS r s = true
    · obtain ⟨hp, hq, _⟩ := isS_true h
      obtain ⟨hr, hs, _⟩ := isS_true h2
      obtain ⟨e, e1, e2⟩ := cross_w hp (by omega) hr (show -1000 ≤ s ∧ s ≤ 1000 by omega) (q := q)
      rw [if_pos h2, if_pos ⟨h, h2⟩, e, l3Abs_eq (by omega) (by omega)]
      rfl
    · rw [if_neg h2, if_neg (fun h => h2 h.2)]
  · rw [if_neg h, if_neg (fun h' => h h'.1)]
theorem impl_cross_eq {p q r s : Int} (hp : -1000 ≤ p ∧ p ≤ 1000) (hq : -1000 ≤ q ∧ q ≤ 1000) (hr : -1000 ≤ r ∧ r ≤ 1000) (hs : -1000 ≤ s ∧ s ≤ 1000) : impl_cross.f p q r s = some ((p * s - q * r).natAbs : Int) := by
  unfold impl_cross.f
  obtain ⟨e, e1, e2⟩ := cross_w hp hq hr hs
  rw [e, size_eq (by omega) (by omega)]
  rfl
theorem impl_crossN (p q r s : Int) (k : Nat) (hk : 1000 < k) : impl_CrossNumber.f k p q r s = some (crossR p q r s) := by
  unfold impl_CrossNumber.f crossR
  rw [impl_isS _ _ _ hk, impl_isS _ _ _ hk, Option.bind_some, Option.bind_some]
  by_cases h : isS p q = true
  · rw [if_pos h]
    by_cases h2 : isS r s = true
    · obtain ⟨hp, hq, _⟩ := isS_true h
      obtain ⟨hr, hs, _⟩ := isS_true h2
      rw [if_pos h2, if_pos ⟨h, h2⟩, impl_cross_eq hp (by omega) hr (by omega)]
      rfl
    · rw [if_neg h2, if_neg (fun h => h2 h.2)]
  · rw [if_neg h, if_neg (fun h' => h h'.1)]
theorem crossR_is {p q r s : Int} (h : crossR p q r s = 1) : isS p q = true ∧ isS r s = true := by
  unfold crossR at h
  split at h
  · assumption
  · omega
end Go.Proofs.Ytbnjcebmnamfjaa.L

namespace Go.Proofs.Ytbnjcebmnamfjaa.L
open Go.RowKit Go.Proofs.Ytbnjcebmnamfjaa.P Go.Proofs.Ytbnjcebmnamfjaa.Help Go.Proofs.YtbnjcebmnamfjaaW.PrintWords
set_option linter.unusedVariables false
set_option linter.unusedSimpArgs false

def commonR (p q r s : Int) : List S25 :=
  if crossR p q r s = 1 then (if (slopeR (p + r) (q + s)).2.2 = true ∧ (slopeR (p - r) (q - s)).2.2 = true then [⟨(slopeR (p + r) (q + s)).1, (slopeR (p + r) (q + s)).2.1⟩, ⟨(slopeR (p - r) (q - s)).1, (slopeR (p - r) (q - s)).2.1⟩] else []) else []
theorem commonR_len (p q r s : Int) : (commonR p q r s).length ≤ 2 := by
  unfold commonR
  repeat' split
  all_goals simp
theorem spec_common (p q r s : Int) (k : Nat) (hk : 1001 < k) : spec_CommonNeighbours.f k p q r s = some (commonR p q r s) := by
  unfold spec_CommonNeighbours.f commonR
  rw [spec_cross _ _ _ _ _ (by omega), Option.bind_some]
  by_cases h : crossR p q r s = 1
  · obtain ⟨h1, h2⟩ := crossR_is h
    obtain ⟨hp, hq, _⟩ := isS_true h1
    obtain ⟨hr, hs, _⟩ := isS_true h2
    rw [if_pos h, if_pos h, w_id (a := p + r) (by omega) (by omega), w_id (a := q + s) (by omega) (by omega), w_id (a := p - r) (by omega) (by omega), w_id (a := q - s) (by omega) (by omega), spec_slope _ _ _ hk, spec_slope _ _ _ hk, Option.bind_some, Option.bind_some]
    by_cases h3 : (slopeR (p + r) (q + s)).2.2 = true
    · by_cases h4 : (slopeR (p - r) (q - s)).2.2 = true
      · rw [if_pos h3, if_pos h4, if_pos ⟨h3, h4⟩]
      · rw [if_pos h3, if_neg h4, if_neg (fun h => h4 h.2)]
    · rw [if_neg h3, if_neg (fun h => h3 h.1)]
  · rw [if_neg h, if_neg h]
theorem impl_common (p q r s : Int) (k : Nat) (hk : 1001 < k) : impl_CommonNeighbours.f k p q r s = some (commonR p q r s) := by
  unfold impl_CommonNeighbours.f commonR
  rw [impl_crossN _ _ _ _ _ (by omega), Option.bind_some]
  by_cases h : crossR p q r s = 1
  · obtain ⟨h1, h2⟩ := crossR_is h
    obtain ⟨hp, hq, _⟩ := isS_true h1
    obtain ⟨hr, hs, _⟩ := isS_true h2
    rw [if_pos h, if_pos h, w_id (a := p + r) (by omega) (by omega), w_id (a := q + s) (by omega) (by omega), w_id (a := p - r) (by omega) (by omega), w_id (a := q - s) (by omega) (by omega), impl_slope _ _ _ (by omega), impl_slope _ _ _ (by omega), Option.bind_some, Option.bind_some]
    by_cases h3 : (slopeR (p + r) (q + s)).2.2 = true
    · by_cases h4 : (slopeR (p - r) (q - s)).2.2 = true
      · rw [if_pos h3, if_pos h4, if_pos ⟨h3, h4⟩]
      · rw [if_pos h3, if_neg h4, if_neg (fun h => h4 h.2)]
    · rw [if_neg h3, if_neg (fun h => h3 h.1)]
  · rw [if_neg h, if_neg h]
end Go.Proofs.Ytbnjcebmnamfjaa.L

namespace Go.Proofs.Ytbnjcebmnamfjaa.L
open Go.RowKit Go.Proofs.Ytbnjcebmnamfjaa.P Go.Proofs.Ytbnjcebmnamfjaa.Help Go.Proofs.YtbnjcebmnamfjaaW.PrintWords
set_option linter.unusedVariables false
set_option linter.unusedSimpArgs false

/-- The first slope of a list that is not a given one. -/
def pick : List S25 → S25 → Int × Int × Bool
  | [], _ => (0, 0, false)
  | t :: ts, u => if (!(t.f0 == u.f0) || !(t.f1 == u.f1)) = true then (t.f0, t.f1, true) else pick ts u
theorem rdT_natF (xs : List S25) (i : Nat) (h : i < xs.length) : rd_T25 xs (i : Int) = xs[i] := by
  unfold rd_T25
  simp [List.getD_eq_getElem?_getD, List.getElem?_eq_getElem h]
theorem spec_pick (e : Int) (L ts : List S25) (he : 1 ≤ e ∧ e ≤ 3) (hL : L.length = 3) (hx : ts.length ≤ 1000) : ∀ (d k i : Nat), i + d = ts.length → d < k → spec_FlipSlope.l1 k e L ts (i : Int) = some (pick (ts.drop i) (rd_T25 L (e - 1))) := by
  intro d
  induction d with
  | zero =>
    intro k i hi hk
    obtain ⟨k, rfl⟩ : ∃ m, k = m + 1 := ⟨k - 1, by omega⟩
    conv => lhs; unfold spec_FlipSlope.l1
    rw [if_neg (by omega), List.drop_of_length_le (by omega)]
    rfl
  | succ d ih =>
    intro k i hi hk
    obtain ⟨k, rfl⟩ : ∃ m, k = m + 1 := ⟨k - 1, by omega⟩
    have hlt : i < ts.length := by omega
    conv => lhs; unfold spec_FlipSlope.l1
    rw [if_pos (by omega), if_pos (by omega), w_id (a := e - 1) (by omega) (by omega), if_pos (by omega), if_pos (by omega), rdT_natF ts i hlt, List.drop_eq_getElem_cons hlt, pick, w_id (by omega) (by omega), show ((i : Int) + 1) = ((i + 1 : Nat) : Int) by omega, ih k (i + 1) (by omega) (by omega)]
    split <;> rfl
theorem impl_pick (e : Int) (L ts : List S25) (he : 1 ≤ e ∧ e ≤ 3) (hL : L.length = 3) (hx : ts.length ≤ 1000) : ∀ (d k i : Nat), i + d = ts.length → d < k → impl_FlipSlope.l1 k e L ts (ts.length : Int) (i : Int) = some (pick (ts.drop i) (rd_T25 L (e - 1))) := by
  intro d
  induction d with
  | zero =>
    intro k i hi hk
    obtain ⟨k, rfl⟩ : ∃ m, k = m + 1 := ⟨k - 1, by omega⟩
    conv => lhs; unfold impl_FlipSlope.l1
    rw [if_neg (by omega), List.drop_of_length_le (by omega)]
    rfl
  | succ d ih =>
    intro k i hi hk
    obtain ⟨k, rfl⟩ : ∃ m, k = m + 1 := ⟨k - 1, by omega⟩
    have hlt : i < ts.length := by omega
    conv => lhs; unfold impl_FlipSlope.l1
    rw [if_pos (by omega), if_pos (by omega), if_pos (by omega), w_id (a := e - 1) (by omega) (by omega), if_pos (by omega), if_pos (by omega), rdT_natF ts i hlt, List.drop_eq_getElem_cons hlt, pick, w_id (by omega) (by omega), show ((i : Int) + 1) = ((i + 1 : Nat) : Int) by omega, ih k (i + 1) (by omega) (by omega)]
    split <;> rfl
/-- The end: the common neighbour that is not the edge's slope. -/
def endF (e : Int) (L : List S25) : Int × Int × Bool :=
  pick (commonR (rd_T25 L (e.tmod 3)).f0 (rd_T25 L (e.tmod 3)).f1 (rd_T25 L ((e + 1).tmod 3)).f0 (rd_T25 L ((e + 1).tmod 3)).f1) (rd_T25 L (e - 1))
theorem tm3 {e : Int} (he : 1 ≤ e ∧ e ≤ 3) : (0 ≤ e.tmod 3 ∧ e.tmod 3 < 3) ∧ (0 ≤ (e + 1).tmod 3 ∧ (e + 1).tmod 3 < 3) := by
  rw [Int.tmod_eq_emod_of_nonneg (by omega), Int.tmod_eq_emod_of_nonneg (by omega)]
  omega
theorem spec_endF (e a b c d : Int) (L : List S25) (he : 1 ≤ e ∧ e ≤ 3) (hL : L.length = 3) (k : Nat) (hk : 2003 < k) : spec_FlipSlope.l0 (k + 1) e L 4 a b c d = some (endF e L) := by
  obtain ⟨t1, t2⟩ := tm3 he
  conv => lhs; unfold spec_FlipSlope.l0
  rw [if_neg (by decide), if_pos t1.1, if_pos (by omega), w_id (a := e + 1) (by omega) (by omega), if_pos t2.1, if_pos (by omega), spec_common _ _ _ _ k (by omega), Option.bind_some]
  have hc := commonR_len (rd_T25 L (e.tmod 3)).f0 (rd_T25 L (e.tmod 3)).f1 (rd_T25 L ((e + 1).tmod 3)).f0 (rd_T25 L ((e + 1).tmod 3)).f1
  have := spec_pick e L (commonR (rd_T25 L (e.tmod 3)).f0 (rd_T25 L (e.tmod 3)).f1 (rd_T25 L ((e + 1).tmod 3)).f0 (rd_T25 L ((e + 1).tmod 3)).f1) he hL (by omega) _ k 0 (Nat.zero_add _) (by omega)
  rw [List.drop_zero] at this
  exact this
theorem impl_endF (e a b c d : Int) (L M : List S25) (he : 1 ≤ e ∧ e ≤ 3) (hL : L.length = 3) (k : Nat) (hk : 2003 < k) : impl_FlipSlope.l0 (k + 1) e L M 3 3 a b c d = some (endF e L) := by
  obtain ⟨t1, t2⟩ := tm3 he
  conv => lhs; unfold impl_FlipSlope.l0
  rw [if_neg (by decide), if_pos t1.1, if_pos (by omega), w_id (a := e + 1) (by omega) (by omega), if_pos t2.1, if_pos (by omega), impl_common _ _ _ _ k (by omega), Option.bind_some]
  have hc := commonR_len (rd_T25 L (e.tmod 3)).f0 (rd_T25 L (e.tmod 3)).f1 (rd_T25 L ((e + 1).tmod 3)).f0 (rd_T25 L ((e + 1).tmod 3)).f1
  have := impl_pick e L (commonR (rd_T25 L (e.tmod 3)).f0 (rd_T25 L (e.tmod 3)).f1 (rd_T25 L ((e + 1).tmod 3)).f0 (rd_T25 L ((e + 1).tmod 3)).f1) he hL (by omega) _ k 0 (Nat.zero_add _) (by omega)
  rw [List.drop_zero] at this
  exact this
/-- The three edges moved, and the end. -/
def movedF (e a b c d : Int) : Int × Int × Bool :=
  if (moveR a b c d 0 1).2.2 = true ∧ (moveR a b c d 1 0).2.2 = true ∧ (moveR a b c d 1 1).2.2 = true then
    endF e [⟨(moveR a b c d 0 1).1, (moveR a b c d 0 1).2.1⟩, ⟨(moveR a b c d 1 0).1, (moveR a b c d 1 0).2.1⟩, ⟨(moveR a b c d 1 1).1, (moveR a b c d 1 1).2.1⟩]
  else (0, 0, false)
theorem movedF_no {e a b c d : Int} (h : ¬ ((moveR a b c d 0 1).2.2 = true ∧ (moveR a b c d 1 0).2.2 = true ∧ (moveR a b c d 1 1).2.2 = true)) : movedF e a b c d = (0, 0, false) := by
  unfold movedF
  rw [if_neg h]
theorem movedF_yes {e a b c d : Int} (h : (moveR a b c d 0 1).2.2 = true ∧ (moveR a b c d 1 0).2.2 = true ∧ (moveR a b c d 1 1).2.2 = true) : movedF e a b c d = endF e [⟨(moveR a b c d 0 1).1, (moveR a b c d 0 1).2.1⟩, ⟨(moveR a b c d 1 0).1, (moveR a b c d 1 0).2.1⟩, ⟨(moveR a b c d 1 1).1, (moveR a b c d 1 1).2.1⟩] := by
  unfold movedF
  rw [if_pos h]
theorem spec_moved (e a b c d : Int) (he : 1 ≤ e ∧ e ≤ 3) (k : Nat) (hk : 2003 < k) : spec_FlipSlope.l0 (k + 4) e [] 1 a b c d = some (movedF e a b c d) := by
  rw [show k + 4 = (k + 3) + 1 from rfl]
  conv => lhs; unfold spec_FlipSlope.l0
  rw [if_pos (by decide)]
  unfold spec_l17Edge.f
  simp only [if_true, Option.bind_some]
  rw [spec_move _ _ _ _ _ _ _ (by omega), Option.bind_some]
  by_cases h1 : (moveR a b c d 0 1).2.2 = true
  · rw [if_pos h1, if_pos (by decide), show wrap64 (1 + 1) = 2 by decide +kernel, show k + 3 = (k + 2) + 1 from rfl]
    conv => lhs; unfold spec_FlipSlope.l0
    rw [if_pos (by decide)]
    unfold spec_l17Edge.f
    rw [if_neg (by decide), if_pos rfl]
    simp only [Option.bind_some]
    rw [spec_move _ _ _ _ _ _ _ (by omega), Option.bind_some]
    by_cases h2 : (moveR a b c d 1 0).2.2 = true
    · rw [if_pos h2, if_pos (by simp), show wrap64 (2 + 1) = 3 by decide +kernel, show k + 2 = (k + 1) + 1 from rfl]
      conv => lhs; unfold spec_FlipSlope.l0
      rw [if_pos (by decide)]
      unfold spec_l17Edge.f
      rw [if_neg (by decide), if_neg (by decide)]
      simp only [Option.bind_some]
      rw [spec_move _ _ _ _ _ _ _ (by omega), Option.bind_some]
      by_cases h3 : (moveR a b c d 1 1).2.2 = true
      · rw [if_pos h3, if_pos (by simp), show wrap64 (3 + 1) = 4 by decide +kernel, spec_endF e a b c d _ he (by simp) k hk, movedF_yes ⟨h1, h2, h3⟩]
        rfl
      · rw [if_neg h3, movedF_no (fun h => h3 h.2.2)]
    · rw [if_neg h2, movedF_no (fun h => h2 h.2.1)]
  · rw [if_neg h1, movedF_no (fun h => h1 h.1)]
theorem impl_moved (e a b c d : Int) (he : 1 ≤ e ∧ e ≤ 3) (k : Nat) (hk : 2003 < k) : impl_FlipSlope.l0 (k + 4) e [] [⟨0, 1⟩, ⟨1, 0⟩, ⟨1, 1⟩] 3 0 a b c d = some (movedF e a b c d) := by
  rw [show k + 4 = (k + 3) + 1 from rfl]
  conv => lhs; unfold impl_FlipSlope.l0
  rw [if_pos (by decide), if_pos (by decide), if_pos (by decide)]
  rw [show rd_T25 [(⟨0, 1⟩ : S25), ⟨1, 0⟩, ⟨1, 1⟩] 0 = ⟨0, 1⟩ from rfl]
  simp only
  rw [impl_move _ _ _ _ _ _ _ (by omega), Option.bind_some]
  by_cases h1 : (moveR a b c d 0 1).2.2 = true
  · rw [if_pos h1, if_pos (by decide), show wrap64 (0 + 1) = 1 by decide +kernel, show k + 3 = (k + 2) + 1 from rfl]
    conv => lhs; unfold impl_FlipSlope.l0
    rw [if_pos (by decide), if_pos (by decide), if_pos (by decide)]
    rw [show rd_T25 [(⟨0, 1⟩ : S25), ⟨1, 0⟩, ⟨1, 1⟩] 1 = ⟨1, 0⟩ from rfl]
    simp only
    rw [impl_move _ _ _ _ _ _ _ (by omega), Option.bind_some]
    by_cases h2 : (moveR a b c d 1 0).2.2 = true
    · rw [if_pos h2, if_pos (by simp), show wrap64 (1 + 1) = 2 by decide +kernel, show k + 2 = (k + 1) + 1 from rfl]
      conv => lhs; unfold impl_FlipSlope.l0
      rw [if_pos (by decide), if_pos (by decide), if_pos (by decide)]
      rw [show rd_T25 [(⟨0, 1⟩ : S25), ⟨1, 0⟩, ⟨1, 1⟩] 2 = ⟨1, 1⟩ from rfl]
      simp only
      rw [impl_move _ _ _ _ _ _ _ (by omega), Option.bind_some]
      by_cases h3 : (moveR a b c d 1 1).2.2 = true
      · rw [if_pos h3, if_pos (by simp), show wrap64 (2 + 1) = 3 by decide +kernel, impl_endF e a b c d _ _ he (by simp) k hk, movedF_yes ⟨h1, h2, h3⟩]
        rfl
      · rw [if_neg h3, movedF_no (fun h => h3 h.2.2)]
    · rw [if_neg h2, movedF_no (fun h => h2 h.2.1)]
  · rw [if_neg h1, movedF_no (fun h => h1 h.1)]
def flipSR (p q e : Int) : Int × Int × Bool :=
  if isS p q = true ∧ 1 ≤ p ∧ 1 ≤ q ∧ 1 ≤ e ∧ e ≤ 3 then
    (if (turnsOfR (ba (turnsToL p q))).2.2.2.2 = true then movedF e (turnsOfR (ba (turnsToL p q))).1 (turnsOfR (ba (turnsToL p q))).2.1 (turnsOfR (ba (turnsToL p q))).2.2.1 (turnsOfR (ba (turnsToL p q))).2.2.2.1 else (0, 0, false))
  else (0, 0, false)
theorem flipSR_no {p q e : Int} (h : ¬ (isS p q = true ∧ 1 ≤ p ∧ 1 ≤ q ∧ 1 ≤ e ∧ e ≤ 3)) : flipSR p q e = (0, 0, false) := by
  unfold flipSR
  rw [if_neg h]
theorem tw_len : ∀ n p q, (tw n p q).length ≤ n
  | 0, _, _ => by simp [tw]
  | n + 1, p, q => by
    have h1 := tw_len n (p - q) q
    have h2 := tw_len n p (q - p)
    rw [tw]
    split
    · simp
    · split
      · rw [List.length_cons]; omega
      · rw [List.length_cons]; omega
theorem turnsToL_len (p q : Int) : (turnsToL p q).length ≤ 2000 := by
  unfold turnsToL
  split
  · split
    · simp
    · exact tw_len _ _ _
  · simp
theorem spec_flipS (p q e : Int) (k : Nat) (hk : 2020 < k) : spec_FlipSlope.f k p q e = some (flipSR p q e) := by
  obtain ⟨k, rfl⟩ : ∃ m, k = m + 5 := ⟨k - 5, by omega⟩
  have hno : spec_FlipSlope.j0 (k + 5) e true p q = some (0, 0, false) := by
    rw [show k + 5 = (k + 4) + 1 from rfl]
    conv => lhs; unfold spec_FlipSlope.j0; dsimp only
    rw [if_pos rfl]
  unfold spec_FlipSlope.f
  rw [spec_isS _ _ _ (by omega), l1In_eq, Option.bind_some, Option.bind_some]
  by_cases h : isS p q = true
  · rw [if_pos h]
    by_cases h1 : p < 1
    · rw [if_pos h1, hno, flipSR_no (fun h => by omega)]
    · rw [if_neg h1]
      by_cases h2 : q < 1
      · rw [if_pos h2, hno, flipSR_no (fun h => by omega)]
      · rw [if_neg h2]
        by_cases h3 : 1 ≤ e ∧ e ≤ 3
        · rw [decide_eq_true h3, show k + 5 = (k + 4) + 1 from rfl]
          conv => lhs; unfold spec_FlipSlope.j0; dsimp only
          have hl := turnsToL_len p q
          rw [if_neg (by decide), spec_turnsTo _ _ _ (by omega), Option.bind_some, spec_turnsOf _ (by rw [ba_size]; omega) _ (by omega), Option.bind_some, spec_moved _ _ _ _ _ h3 k (by omega)]
          unfold flipSR
          rw [if_pos (show isS p q = true ∧ 1 ≤ p ∧ 1 ≤ q ∧ 1 ≤ e ∧ e ≤ 3 from ⟨h, by omega, by omega, h3⟩)]
          split <;> rfl
        · rw [decide_eq_false h3, flipSR_no (fun h => h3 h.2.2.2)]
          exact hno
  · rw [if_neg h, hno, flipSR_no (fun h' => h h'.1)]
theorem impl_flipS (p q e : Int) (k : Nat) (hk : 2020 < k) : impl_FlipSlope.f k p q e = some (flipSR p q e) := by
  obtain ⟨k, rfl⟩ : ∃ m, k = m + 5 := ⟨k - 5, by omega⟩
  have hno : impl_FlipSlope.j0 (k + 5) e true p q = some (0, 0, false) := by
    rw [show k + 5 = (k + 4) + 1 from rfl]
    conv => lhs; unfold impl_FlipSlope.j0; dsimp only
    rw [if_pos rfl]
  unfold impl_FlipSlope.f
  rw [impl_isS _ _ _ (by omega), within_eq, Option.bind_some, Option.bind_some]
  by_cases h : isS p q = true
  · rw [if_pos h]
    by_cases h1 : p < 1
    · rw [if_pos h1, hno, flipSR_no (fun h => by omega)]
    · rw [if_neg h1]
      by_cases h2 : q < 1
      · rw [if_pos h2, hno, flipSR_no (fun h => by omega)]
      · rw [if_neg h2]
        by_cases h3 : 1 ≤ e ∧ e ≤ 3
        · rw [decide_eq_true h3, show k + 5 = (k + 4) + 1 from rfl]
          conv => lhs; unfold impl_FlipSlope.j0; dsimp only
          have hl := turnsToL_len p q
          unfold impl_edgeSlopes.f
          rw [if_neg (by decide), impl_turnsTo _ _ _ (by omega), Option.bind_some, impl_turnsOf _ (by rw [ba_size]; omega) _ (by omega), Option.bind_some, Option.bind_some]
          have hm := impl_moved e (turnsOfR (ba (turnsToL p q))).1 (turnsOfR (ba (turnsToL p q))).2.1 (turnsOfR (ba (turnsToL p q))).2.2.1 (turnsOfR (ba (turnsToL p q))).2.2.2.1 h3 k (by omega)
          rw [show (([⟨0, 1⟩, ⟨1, 0⟩, ⟨1, 1⟩] : List S25).length : Int) = 3 from rfl, hm]
          unfold flipSR
          rw [if_pos (show isS p q = true ∧ 1 ≤ p ∧ 1 ≤ q ∧ 1 ≤ e ∧ e ≤ 3 from ⟨h, by omega, by omega, h3⟩)]
          split <;> rfl
        · rw [decide_eq_false h3, flipSR_no (fun h => h3 h.2.2.2)]
          exact hno
  · rw [if_neg h, hno, flipSR_no (fun h' => h h'.1)]
end Go.Proofs.Ytbnjcebmnamfjaa.L

namespace Go.Proofs.Ytbnjcebmnamfjaa.L
open Go.RowKit Go.Proofs.Ytbnjcebmnamfjaa.P Go.Proofs.Ytbnjcebmnamfjaa.Help Go.Proofs.YtbnjcebmnamfjaaW.PrintWords
set_option linter.unusedVariables false
set_option linter.unusedSimpArgs false

theorem eqS_self (a b : Int) : laws_eqSlope.f a b a b = some true := by simp [laws_eqSlope.f]
end Go.Proofs.Ytbnjcebmnamfjaa.L

namespace Go.Proofs.Ytbnjcebmnamfjaa.Pure
open Go.RowKit Go.Proofs.Ytbnjcebmnamfjaa.P Go.Proofs.Ytbnjcebmnamfjaa.Help Go.Proofs.Ytbnjcebmnamfjaa.L
theorem FnExactFlipSlope : ∀ (a0_0 a0_1 : Int) (a1 : Int), I64 a0_0 → I64 a0_1 → I64 a1 → ∃ k, laws_FnExactFlipSlope.f k a0_0 a0_1 a1 = some true := by
  intro p q e _ _ _
  refine ⟨2030, ?_⟩
  unfold laws_FnExactFlipSlope.f laws_toSlope.f
  simp only [Option.bind_some]
  rw [spec_flipS _ _ _ 2030 (by decide), impl_flipS _ _ _ 2030 (by decide)]
  simp [eqS_self]
end Go.Proofs.Ytbnjcebmnamfjaa.Pure
