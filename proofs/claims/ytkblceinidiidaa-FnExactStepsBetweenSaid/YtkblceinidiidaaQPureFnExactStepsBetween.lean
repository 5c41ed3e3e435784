/- The program's StepsBetween answers as the reference's, for all arguments; no condition. -/
import Derived.Test.YtkblceinidiidaaQPx0
import Derived.Test.YtkblceinidiidaaQHelp
import Derived.Test.YtkblceinidiidaaQPx2
import Derived.Test.YtkblceinidiidaaQPx3
import Derived.Test.YtkblceinidiidaaQPx7
import Derived.Test.YtkblceinidiidaaQPx9
import Derived.Test.YtkblceinidiidaaQPx4
import Derived.Test.YtkblceinidiidaaQPx8
import Derived.Test.YtkblceinidiidaaQPx10
import Derived.Test.YtkblceinidiidaaQPx11
import Derived.Test.YtkblceinidiidaaQPx12
import Derived.Test.YtkblceinidiidaaQPx13

namespace Go.Proofs.Ytkblceinidiidaa.L
open Go.RowKit Go.Proofs.Ytkblceinidiidaa.P Go.Proofs.Ytkblceinidiidaa.Help Go.Proofs.YtkblceinidiidaaW.PrintWords
set_option linter.unusedVariables false
set_option linter.unusedSimpArgs false

theorem w_id {a : Int} (h0 : -9223372036854775808 ≤ a) (h1 : a ≤ 9223372036854775807) : wrap64 a = a := by unfold wrap64; omega
theorem mulb {a b A B : Int} (h1 : -A ≤ a) (h2 : a ≤ A) (h3 : -B ≤ b) (h4 : b ≤ B) : -(A * B) ≤ a * b ∧ a * b ≤ A * B := by
  have hA : 0 ≤ A := by omega
  have hB : 0 ≤ B := by omega
  have h : (a * b).natAbs ≤ (A * B).natAbs := by
    rw [Int.natAbs_mul, Int.natAbs_mul]
    exact Nat.mul_le_mul (by omega) (by omega)
  have hp : 0 ≤ A * B := Int.mul_nonneg hA hB
  omega
theorem rd_nat (xs : List Int) (i : Nat) (h : i < xs.length) : rd xs (i : Int) = xs[i] := by
  unfold rd
  simp [List.getD_eq_getElem?_getD, List.getElem?_eq_getElem h]
theorem bind_ite {α β : Type} {c : Prop} [Decidable c] (x y : Option α) (f : α → Option β) : (if c then x else y).bind f = if c then x.bind f else y.bind f := by split <;> rfl
theorem unit_of {a d : Int} (h : a * d = 1) : a = 1 ∨ a = -1 := by
  have h1 : a.natAbs * d.natAbs = 1 := by rw [← Int.natAbs_mul, h]; rfl
  have h2 : a.natAbs = 1 := Nat.eq_one_of_mul_eq_one_right h1
  omega
end Go.Proofs.Ytkblceinidiidaa.L

namespace Go.Proofs.Ytkblceinidiidaa.L
open Go.RowKit Go.Proofs.Ytkblceinidiidaa.P Go.Proofs.Ytkblceinidiidaa.Help Go.Proofs.YtkblceinidiidaaW.PrintWords
set_option linter.unusedVariables false
set_option linter.unusedSimpArgs false

theorem l1In_eq (a lo hi : Int) : spec_l1In.f a lo hi = some (decide (lo ≤ a ∧ a ≤ hi)) := by
  unfold spec_l1In.f
  by_cases h : lo ≤ a <;> simp [h]
theorem within_eq (a lo hi : Int) : impl_within.f a lo hi = some (decide (lo ≤ a ∧ a ≤ hi)) := by
  unfold impl_within.f
  by_cases h : lo ≤ a <;> simp [h]
end Go.Proofs.Ytkblceinidiidaa.L

namespace Go.Proofs.Ytkblceinidiidaa.L
open Go.RowKit Go.Proofs.Ytkblceinidiidaa.P Go.Proofs.Ytkblceinidiidaa.Help Go.Proofs.YtkblceinidiidaaW.PrintWords
set_option linter.unusedVariables false
set_option linter.unusedSimpArgs false

theorem l3Abs_eq {a : Int} (h0 : -9223372036854775807 ≤ a) (h1 : a ≤ 9223372036854775807) : spec_l3Abs.f a = some (a.natAbs : Int) := by
  unfold spec_l3Abs.f spec_l1Max.f
  rw [w_id (by omega) (by omega)]
  by_cases h : a > -a
  · rw [if_pos h]; simp only [Option.bind_some]; congr 1; omega
  · rw [if_neg h]; simp only [Option.bind_some]; congr 1; omega
theorem size_eq {a : Int} (h0 : -9223372036854775807 ≤ a) (h1 : a ≤ 9223372036854775807) : impl_size.f a = some (a.natAbs : Int) := by
  unfold impl_size.f
  rw [w_id (by omega) (by omega)]
  congr 1
  unfold mx
  split <;> omega
end Go.Proofs.Ytkblceinidiidaa.L

namespace Go.Proofs.Ytkblceinidiidaa.L
open Go.RowKit Go.Proofs.Ytkblceinidiidaa.P Go.Proofs.Ytkblceinidiidaa.Help Go.Proofs.YtkblceinidiidaaW.PrintWords
set_option linter.unusedVariables false
set_option linter.unusedSimpArgs false

theorem gcd_step (a b : Int) (hb : b ≠ 0) : Int.gcd b (a.tmod b) = Int.gcd a b := by
  show Nat.gcd b.natAbs (a.tmod b).natAbs = Nat.gcd a.natAbs b.natAbs
  rw [Int.natAbs_tmod, Nat.gcd_comm a.natAbs b.natAbs, Nat.gcd_comm b.natAbs (a.natAbs % b.natAbs), ← Nat.gcd_rec]
theorem tmod_bd (a b : Int) (hb : b ≠ 0) : (a.tmod b).natAbs < b.natAbs := by
  rw [Int.natAbs_tmod]
  exact Nat.mod_lt _ (by omega)
theorem spec_gcd_l0 : ∀ (n k : Nat) (a b : Int), b.natAbs ≤ n → n < k → a.natAbs ≤ 9000000000000000000 → b.natAbs ≤ 9000000000000000000 → spec_l11Gcd.l0 k a b = some (Int.gcd a b : Int) := by
  intro n
  induction n with
  | zero =>
    intro k a b hb hk ha hB
    obtain ⟨k, rfl⟩ : ∃ m, k = m + 1 := ⟨k - 1, by omega⟩
    obtain rfl : b = 0 := by omega
    simp only [spec_l11Gcd.l0]
    rw [if_pos trivial, l3Abs_eq (by omega) (by omega), Option.bind_some, Int.gcd_zero_right]
  | succ n ih =>
    intro k a b hb hk ha hB
    obtain ⟨k, rfl⟩ : ∃ m, k = m + 1 := ⟨k - 1, by omega⟩
    simp only [spec_l11Gcd.l0]
    by_cases h : b = 0
    · subst h
      rw [if_pos rfl, l3Abs_eq (by omega) (by omega), Option.bind_some, Int.gcd_zero_right]
    · have := tmod_bd a b h
      rw [if_neg h, ih k b (a.tmod b) (by omega) (by omega) (by omega) (by omega), gcd_step a b h]
theorem impl_gcd_l0 : ∀ (n k : Nat) (a b : Int), b.natAbs ≤ n → n < k → 0 ≤ a → 0 ≤ b → impl_gcd.l0 k a b = some (Int.gcd a b : Int) := by
  intro n
  induction n with
  | zero =>
    intro k a b hb hk ha hB
    obtain ⟨k, rfl⟩ : ∃ m, k = m + 1 := ⟨k - 1, by omega⟩
    obtain rfl : b = 0 := by omega
    simp only [impl_gcd.l0]
    rw [if_pos trivial, Int.gcd_zero_right]
    congr 1
    omega
  | succ n ih =>
    intro k a b hb hk ha hB
    obtain ⟨k, rfl⟩ : ∃ m, k = m + 1 := ⟨k - 1, by omega⟩
    simp only [impl_gcd.l0]
    by_cases h : b = 0
    · subst h
      rw [if_pos rfl, Int.gcd_zero_right]
      congr 1
      omega
    · have := tmod_bd a b h
      rw [if_neg h, ih k b (a.tmod b) (by omega) (by omega) hB (Int.tmod_nonneg _ ha), gcd_step a b h]
theorem spec_gcd (a b : Int) (k : Nat) (hk : b.natAbs < k) (ha : a.natAbs ≤ 9000000000000000000) (hb : b.natAbs ≤ 9000000000000000000) : spec_l11Gcd.f k a b = some (Int.gcd a b : Int) := by
  unfold spec_l11Gcd.f
  exact spec_gcd_l0 _ k a b (Nat.le_refl _) hk ha hb
theorem impl_gcd_eq (a b : Int) (k : Nat) (hk : b.natAbs < k) (ha : a.natAbs ≤ 9000000000000000000) (hb : b.natAbs ≤ 9000000000000000000) : impl_gcd.f k a b = some (Int.gcd a b : Int) := by
  unfold impl_gcd.f
  rw [size_eq (by omega) (by omega), size_eq (by omega) (by omega), Option.bind_some, Option.bind_some, impl_gcd_l0 _ k _ _ (Nat.le_refl _) (by omega) (by omega) (by omega)]
  rfl
end Go.Proofs.Ytkblceinidiidaa.L


namespace Go.Proofs.Ytkblceinidiidaa.L
open Go.RowKit Go.Proofs.Ytkblceinidiidaa.P Go.Proofs.Ytkblceinidiidaa.Help Go.Proofs.YtkblceinidiidaaW.PrintWords
set_option linter.unusedVariables false
set_option linter.unusedSimpArgs false

/-- A slope. -/
def isS (p q : Int) : Bool := decide ((-1000 ≤ p ∧ p ≤ 1000) ∧ (0 ≤ q ∧ q ≤ 1000) ∧ Int.gcd p q = 1 ∧ (q = 0 → p = 1))
theorem isS_true {p q : Int} (h : isS p q = true) : (-1000 ≤ p ∧ p ≤ 1000) ∧ (0 ≤ q ∧ q ≤ 1000) ∧ Int.gcd p q = 1 ∧ (q = 0 → p = 1) := of_decide_eq_true h
end Go.Proofs.Ytkblceinidiidaa.L

namespace Go.Proofs.Ytkblceinidiidaa.L
open Go.RowKit Go.Proofs.Ytkblceinidiidaa.P Go.Proofs.Ytkblceinidiidaa.Help Go.Proofs.YtkblceinidiidaaW.PrintWords
set_option linter.unusedVariables false
set_option linter.unusedSimpArgs false

theorem spec_isS (p q : Int) (k : Nat) (hk : 1000 < k) : spec_IsSlope.f k p q = some (isS p q) := by
  unfold spec_IsSlope.f isS
  rw [l1In_eq, l1In_eq, Option.bind_some, Option.bind_some]
  by_cases h1 : -1000 ≤ p ∧ p ≤ 1000
  · by_cases h2 : 0 ≤ q ∧ q ≤ 1000
    · rw [if_pos (decide_eq_true h1), if_pos (decide_eq_true h2), spec_gcd p q k (by omega) (by omega) (by omega), Option.bind_some]
      by_cases h3 : q = 0
      · subst h3
        rw [if_pos rfl]
        by_cases h4 : p = 1
        · subst h4; rw [if_pos rfl]; decide
        · rw [if_neg h4]; simp [h4]
      · rw [if_neg h3]
        congr 1
        rw [Bool.eq_iff_iff]
        simp [h1, h2, h3]
        omega
    · rw [if_pos (decide_eq_true h1), if_neg (by simpa using h2)]
      congr 1
      symm
      rw [decide_eq_false_iff_not]
      exact fun h => h2 h.2.1
  · rw [if_neg (by simpa using h1)]
    congr 1
    symm
    rw [decide_eq_false_iff_not]
    exact fun h => h1 h.1
theorem impl_isS (p q : Int) (k : Nat) (hk : 1000 < k) : impl_IsSlope.f k p q = some (isS p q) := by
  unfold impl_IsSlope.f isS
  rw [within_eq, within_eq, Option.bind_some, Option.bind_some]
  by_cases h1 : -1000 ≤ p ∧ p ≤ 1000
  · by_cases h2 : 0 ≤ q ∧ q ≤ 1000
    · rw [if_pos (decide_eq_true h1), if_pos (decide_eq_true h2), impl_gcd_eq p q k (by omega) (by omega) (by omega), Option.bind_some]
      by_cases h5 : Int.gcd p q = 1
      · rw [if_pos (by omega)]
        by_cases h3 : q = 0
        · rw [if_neg (by omega)]
          congr 1
          rw [Bool.eq_iff_iff]
          simp [h1, h2, h3]
          intro h4
          subst h4
          decide
        · rw [if_pos (by omega)]
          congr 1
          symm
          rw [decide_eq_true_iff]
          exact ⟨h1, h2, h5, fun h => absurd h h3⟩
      · rw [if_neg (by omega)]
        congr 1
        symm
        rw [decide_eq_false_iff_not]
        exact fun h => h5 h.2.2.1
    · rw [if_pos (decide_eq_true h1), if_neg (by simpa using h2)]
      congr 1
      symm
      rw [decide_eq_false_iff_not]
      exact fun h => h2 h.2.1
  · rw [if_neg (by simpa using h1)]
    congr 1
    symm
    rw [decide_eq_false_iff_not]
    exact fun h => h1 h.1
end Go.Proofs.Ytkblceinidiidaa.L

namespace Go.Proofs.Ytkblceinidiidaa.L
open Go.RowKit Go.Proofs.Ytkblceinidiidaa.P Go.Proofs.Ytkblceinidiidaa.Help Go.Proofs.YtkblceinidiidaaW.PrintWords
set_option linter.unusedVariables false
set_option linter.unusedSimpArgs false

/-- How often two slopes cross. -/
def crossR (p q r s : Int) : Int := if isS p q = true ∧ isS r s = true then ((p * s - q * r).natAbs : Int) else -1
theorem cross_w {p q r s : Int} (hp : -1000 ≤ p ∧ p ≤ 1000) (hq : -1000 ≤ q ∧ q ≤ 1000) (hr : -1000 ≤ r ∧ r ≤ 1000) (hs : -1000 ≤ s ∧ s ≤ 1000) : wrap64 ((wrap64 (p * s)) - (wrap64 (q * r))) = p * s - q * r ∧ -2000000 ≤ p * s - q * r ∧ p * s - q * r ≤ 2000000 := by
  have h1 := mulb hp.1 hp.2 hs.1 hs.2
  have h2 := mulb hq.1 hq.2 hr.1 hr.2
  rw [w_id (a := p * s) (by omega) (by omega), w_id (a := q * r) (by omega) (by omega), w_id (by omega) (by omega)]
  omega
theorem spec_cross (p q r s : Int) (k : Nat) (hk : 1000 < k) : spec_CrossNumber.f k p q r s = some (crossR p q r s) := by
  unfold spec_CrossNumber.f crossR
  rw [spec_isS _ _ _ hk, spec_isS _ _ _ hk, Option.bind_some, Option.bind_some]
  by_cases h : isS p q = true
  · rw [if_pos h]
    by_cases h2 : isS r s = true
    · obtain ⟨hp, hq, _⟩ := isS_true h
      obtain ⟨hr, hs, _⟩ := isS_true h2
      obtain ⟨e, e1, e2⟩ := cross_w hp (by omega) hr (show -1000 ≤ s ∧ s ≤ 1000 by omega) (q := q)
      rw [if_pos h2, if_pos ⟨h, h2⟩, e, l3Abs_eq (by omega) (by omega)]
      rfl
    · rw [if_neg h2, if_neg (fun h => h2 h.2)]
  · rw [if_neg h, if_neg (fun h' => h h'.1)]
theorem impl_cross_eq {p q r s : Int} (hp : -1000 ≤ p ∧ p ≤ 1000) (hq : -1000 ≤ q ∧ q ≤ 1000) (hr : -1000 ≤ r ∧ r ≤ 1000) (hs : -1000 ≤ s ∧ s ≤ 1000) : impl_cross.f p q r s = some ((p * s - q * r).natAbs : Int) := by
  unfold impl_cross.f
  obtain ⟨e, e1, e2⟩ := cross_w hp hq hr hs
  rw [e, size_eq (by omega) (by omega)]
  rfl
theorem crossR_is {p q r s : Int} (h : crossR p q r s = 1) : isS p q = true ∧ isS r s = true := by
  unfold crossR at h
  split at h
  · assumption
  · omega
end Go.Proofs.Ytkblceinidiidaa.L

namespace Go.Proofs.Ytkblceinidiidaa.L
open Go.RowKit Go.Proofs.Ytkblceinidiidaa.P Go.Proofs.Ytkblceinidiidaa.Help Go.Proofs.YtkblceinidiidaaW.PrintWords
set_option linter.unusedVariables false
set_option linter.unusedSimpArgs false

/-- The slopes with one Q, from a P on. -/
def rowS : Nat → Int → Int → List S25
  | 0, _, _ => []
  | n + 1, p, q => if isS p q = true then ⟨p, q⟩ :: rowS n (p + 1) q else rowS n (p + 1) q
theorem rowS_len : ∀ n p q, (rowS n p q).length ≤ n
  | 0, _, _ => by simp [rowS]
  | n + 1, p, q => by
    have := rowS_len n (p + 1) q
    rw [rowS]
    split
    · rw [List.length_cons]; omega
    · omega
def allS (most : Int) : Nat → Int → List S25
  | 0, _ => []
  | n + 1, q => rowS (2 * most + 1).toNat (-most) q ++ allS most n (q + 1)
theorem allS_len (most : Int) (h : 0 ≤ most ∧ most ≤ 100) : ∀ n q, (allS most n q).length ≤ 201 * n
  | 0, _ => by simp [allS]
  | n + 1, q => by
    have := allS_len most h n (q + 1)
    have := rowS_len (2 * most + 1).toNat (-most) q
    rw [allS, List.length_append]
    omega
theorem spec_all_l1 (most : Int) (hm : 0 ≤ most ∧ most ≤ 100) (q : Int) (hq : 0 ≤ q ∧ q ≤ 100) : ∀ (d k : Nat) (p : Int) (o : List S25), p + d = most + 1 → -most ≤ p → d + 1002 < k → o.length + d ≤ 1000000 → spec_l14All.l1 k most o q p = spec_l14All.l0 (k - d - 1) most (o ++ rowS d p q) (q + 1) := by
  intro d
  induction d with
  | zero =>
    intro k p o hp hp0 hk ho
    obtain ⟨k, rfl⟩ : ∃ m, k = m + 1 := ⟨k - 1, by omega⟩
    conv => lhs; unfold spec_l14All.l1
    rw [if_neg (by omega), w_id (by omega) (by omega)]
    simp [rowS]
  | succ d ih =>
    intro k p o hp hp0 hk ho
    obtain ⟨k, rfl⟩ : ∃ m, k = m + 1 := ⟨k - 1, by omega⟩
    conv => lhs; unfold spec_l14All.l1
    rw [if_pos (by omega), spec_isS _ _ k (by omega), Option.bind_some, w_id (by omega) (by omega), rowS, show k + 1 - (d + 1) - 1 = k - d - 1 by omega]
    by_cases h : isS p q = true
    · rw [if_pos h, if_pos h, if_pos (by omega), ih k (p + 1) _ (by omega) (by omega) (by omega) (by simp; omega), List.append_assoc]
      rfl
    · rw [if_neg h, if_neg h, ih k (p + 1) o (by omega) (by omega) (by omega) (by omega)]
theorem spec_all_l0 (most : Int) (hm : 0 ≤ most ∧ most ≤ 100) : ∀ (d k : Nat) (q : Int) (o : List S25), q + d = most + 1 → 0 ≤ q → 210 * d + 1300 < k → o.length + 201 * d ≤ 1000000 → spec_l14All.l0 k most o q = some (o ++ allS most d q) := by
  intro d
  induction d with
  | zero =>
    intro k q o hq hq0 hk ho
    obtain ⟨k, rfl⟩ : ∃ m, k = m + 1 := ⟨k - 1, by omega⟩
    conv => lhs; unfold spec_l14All.l0
    rw [if_neg (by omega)]
    simp [allS]
  | succ d ih =>
    intro k q o hq hq0 hk ho
    obtain ⟨k, rfl⟩ : ∃ m, k = m + 1 := ⟨k - 1, by omega⟩
    have hl := rowS_len (2 * most + 1).toNat (-most) q
    conv => lhs; unfold spec_l14All.l0
    rw [if_pos (by omega), w_id (by omega) (by omega), spec_all_l1 most hm q (by omega) (2 * most + 1).toNat k (-most) o (by omega) (by omega) (by omega) (by omega), ih _ (q + 1) _ (by omega) (by omega) (by omega) (by rw [List.length_append]; omega), allS, List.append_assoc]
def allR (most : Int) : List S25 := allS most (most + 1).toNat 0
theorem spec_all (most : Int) (hm : 0 ≤ most ∧ most ≤ 100) (k : Nat) (hk : 25000 < k) : spec_l14All.f k most = some (allR most) := by
  unfold spec_l14All.f allR
  have := spec_all_l0 most hm (most + 1).toNat k 0 [] (by omega) (by omega) (by omega) (by simp; omega)
  rw [List.nil_append] at this
  exact this
theorem allR_len (most : Int) (hm : 0 ≤ most ∧ most ≤ 100) : (allR most).length ≤ 21000 := by
  have := allS_len most hm (most + 1).toNat 0
  unfold allR
  omega
end Go.Proofs.Ytkblceinidiidaa.L

namespace Go.Proofs.Ytkblceinidiidaa.L
open Go.RowKit Go.Proofs.Ytkblceinidiidaa.P Go.Proofs.Ytkblceinidiidaa.Help Go.Proofs.YtkblceinidiidaaW.PrintWords
set_option linter.unusedVariables false
set_option linter.unusedSimpArgs false

def crossing (p q : Int) (t : S25) : Bool := decide (crossR p q t.f0 t.f1 = 1)
theorem rdT_nat (xs : List S25) (i : Nat) (h : i < xs.length) : rd_T25 xs (i : Int) = xs[i] := by
  unfold rd_T25
  simp [List.getD_eq_getElem?_getD, List.getElem?_eq_getElem h]
theorem cross_sym {p q r s : Int} (h : isS p q = true) (h2 : isS r s = true) : ((r * q - s * p).natAbs : Int) = crossR p q r s := by
  unfold crossR
  rw [if_pos ⟨h, h2⟩, show r * q - s * p = -(p * s - q * r) by grind, Int.natAbs_neg]
theorem impl_nb_l1 (p q : Int) (hs : isS p q = true) (most : Int) (hm : 0 ≤ most ∧ most ≤ 100) (y : Int) (hy : 0 ≤ y ∧ y ≤ 100) : ∀ (d k : Nat) (x : Int) (o : List S25), x + d = most + 1 → -most ≤ x → d + 1002 < k → o.length + d ≤ 1000000 → impl_neighbours.l1 k most o y x p q = impl_neighbours.l0 (k - d - 1) most (o ++ (rowS d x y).filter (crossing p q)) (y + 1) p q := by
  obtain ⟨b1, b2, _⟩ := isS_true hs
  intro d
  induction d with
  | zero =>
    intro k x o hx hx0 hk ho
    obtain ⟨k, rfl⟩ : ∃ m, k = m + 1 := ⟨k - 1, by omega⟩
    conv => lhs; unfold impl_neighbours.l1
    rw [if_neg (by omega), w_id (by omega) (by omega)]
    simp [rowS]
  | succ d ih =>
    intro k x o hx hx0 hk ho
    obtain ⟨k, rfl⟩ : ∃ m, k = m + 1 := ⟨k - 1, by omega⟩
    conv => lhs; unfold impl_neighbours.l1
    rw [if_pos (by omega), impl_isS _ _ k (by omega), Option.bind_some, impl_cross_eq (by omega) (by omega) b1 (by omega), Option.bind_some, w_id (by omega) (by omega), rowS, show k + 1 - (d + 1) - 1 = k - d - 1 by omega]
    by_cases h : isS x y = true
    · rw [if_pos h, if_pos h, cross_sym hs h, List.filter_cons]
      by_cases h2 : crossR p q x y = 1
      · rw [if_pos h2, if_pos (by omega), if_pos (show crossing p q ⟨x, y⟩ = true from decide_eq_true h2), ih k (x + 1) _ (by omega) (by omega) (by omega) (by simp; omega), List.append_assoc]
        rfl
      · rw [if_neg h2, if_neg (show ¬ crossing p q ⟨x, y⟩ = true by unfold crossing; simpa using h2), ih k (x + 1) o (by omega) (by omega) (by omega) (by omega)]
    · rw [if_neg h, if_neg h, ih k (x + 1) o (by omega) (by omega) (by omega) (by omega)]
theorem impl_nb_l0 (p q : Int) (hs : isS p q = true) (most : Int) (hm : 0 ≤ most ∧ most ≤ 100) : ∀ (d k : Nat) (y : Int) (o : List S25), y + d = most + 1 → 0 ≤ y → 210 * d + 1300 < k → o.length + 201 * d ≤ 1000000 → impl_neighbours.l0 k most o y p q = some (o ++ (allS most d y).filter (crossing p q)) := by
  intro d
  induction d with
  | zero =>
    intro k y o hy hy0 hk ho
    obtain ⟨k, rfl⟩ : ∃ m, k = m + 1 := ⟨k - 1, by omega⟩
    conv => lhs; unfold impl_neighbours.l0
    rw [if_neg (by omega)]
    simp [allS]
  | succ d ih =>
    intro k y o hy hy0 hk ho
    obtain ⟨k, rfl⟩ : ∃ m, k = m + 1 := ⟨k - 1, by omega⟩
    have hl := rowS_len (2 * most + 1).toNat (-most) y
    have hf := List.length_filter_le (crossing p q) (rowS (2 * most + 1).toNat (-most) y)
    conv => lhs; unfold impl_neighbours.l0
    rw [if_pos (by omega), w_id (by omega) (by omega), impl_nb_l1 p q hs most hm y (by omega) (2 * most + 1).toNat k (-most) o (by omega) (by omega) (by omega) (by omega), ih _ (y + 1) _ (by omega) (by omega) (by omega) (by rw [List.length_append]; omega), allS, List.append_assoc, List.filter_append]
def nbR (p q most : Int) : List S25 := (allR most).filter (crossing p q)
theorem impl_nb (p q : Int) (hs : isS p q = true) (most : Int) (hm : 0 ≤ most ∧ most ≤ 100) (k : Nat) (hk : 25000 < k) : impl_neighbours.f k p q most = some (nbR p q most) := by
  unfold impl_neighbours.f nbR allR
  have := impl_nb_l0 p q hs most hm (most + 1).toNat k 0 [] (by omega) (by omega) (by omega) (by simp; omega)
  rw [List.nil_append] at this
  exact this
end Go.Proofs.Ytkblceinidiidaa.L

namespace Go.Proofs.Ytkblceinidiidaa.L
open Go.RowKit Go.Proofs.Ytkblceinidiidaa.P Go.Proofs.Ytkblceinidiidaa.Help Go.Proofs.YtkblceinidiidaaW.PrintWords Go.Proofs.YtkblceinidiidaaW.PrintMore
set_option linter.unusedVariables false
set_option linter.unusedSimpArgs false
/-- The distance of 1 / 0 from p / q, r = p mod q. -/
inductive Far : Nat → Nat → Nat → Prop
  | small {q r : Nat} : q ≤ 1 → Far q r q
  | step {q r a b : Nat} : 2 ≤ q → 1 ≤ r → r < q → Far r (q % r) a → Far (q - r) (q % (q - r)) b → Far q r (1 + min a b)
theorem Far.uniq {q r n : Nat} (h : Far q r n) : ∀ {m : Nat}, Far q r m → n = m := by
  induction h with
  | small hq =>
    intro m hm
    cases hm with
    | small _ => rfl
    | step h2 _ _ _ _ => omega
  | step h2 h1 hlt ha hb iha ihb =>
    intro m hm
    cases hm with
    | small hq => omega
    | step _ _ _ ha' hb' => rw [iha ha', ihb hb']
theorem Far.le {q r n : Nat} (h : Far q r n) : n ≤ q := by
  induction h with
  | small _ => exact Nat.le_refl _
  | step h2 h1 hlt ha hb iha ihb =>
    have := Nat.min_le_left
    omega
theorem Far.ex : ∀ (N q r : Nat), q ≤ N → (2 ≤ q → r < q ∧ Nat.gcd q r = 1) → ∃ n, Far q r n
  | 0, q, r, hN, h => ⟨q, .small (by omega)⟩
  | N + 1, q, r, hN, h => by
    by_cases hq : q ≤ 1
    · exact ⟨q, .small hq⟩
    · obtain ⟨hlt, hg⟩ := h (by omega)
      have hr : 1 ≤ r := by
        rcases Nat.eq_zero_or_pos r with h0 | h0
        · subst h0
          rw [Nat.gcd_zero_right] at hg
          omega
        · exact h0
      obtain ⟨a, ha⟩ := Far.ex N r (q % r) (by omega) (fun h2 => ⟨Nat.mod_lt _ (by omega), by
        rw [Nat.gcd_comm r, ← Nat.gcd_rec, Nat.gcd_comm]; exact hg⟩)
      obtain ⟨b, hb⟩ := Far.ex N (q - r) (q % (q - r)) (by omega) (fun h2 => ⟨Nat.mod_lt _ (by omega), by
        rw [Nat.gcd_comm (q - r), ← Nat.gcd_rec]
        have e : Nat.gcd (q - r) q = Nat.gcd q r := by
          have e1 : q = (q - r) + r := by omega
          calc Nat.gcd (q - r) q = Nat.gcd (q - r) ((q - r) + r) := by rw [← e1]
            _ = Nat.gcd (q - r) r := by rw [Nat.gcd_self_add_right]
            _ = Nat.gcd r (q - r) := Nat.gcd_comm _ _
            _ = Nat.gcd r q := Nat.gcd_sub_self_right (by omega)
            _ = Nat.gcd q r := Nat.gcd_comm _ _
        rw [e]; exact hg⟩)
      exact ⟨_, .step (by omega) hr hlt ha hb⟩
theorem tdiv_e {p q : Int} (hq : 0 < q) : (if Int.tmod p q < 0 then Int.tdiv p q - 1 else Int.tdiv p q) = p / q ∧ (if Int.tmod p q < 0 then Int.tmod p q + q else Int.tmod p q) = p % q := by
  have e1 := Int.tmod_add_mul_tdiv p q
  have e2 := Int.emod_add_mul_ediv p q
  have b1 := Int.emod_nonneg p (show q ≠ 0 by omega)
  have b2 := Int.emod_lt_of_pos p hq
  have b3 := Int.tmod_lt_of_pos p hq
  have b4 : -q < Int.tmod p q := by
    have := Int.lt_tmod_of_pos p hq
    omega
  by_cases h : Int.tmod p q < 0
  · rw [if_pos h, if_pos h]
    have hk : q * (Int.tdiv p q - 1 - p / q) = p % q - (Int.tmod p q + q) := by rw [Int.mul_sub, Int.mul_sub]; omega
    have h0 : Int.tdiv p q - 1 - p / q = 0 := by
      generalize Int.tdiv p q - 1 - p / q = z at hk
      rcases Int.lt_trichotomy z 0 with hz | hz | hz
      · have : q * z ≤ q * (-1) := Int.mul_le_mul_of_nonneg_left (by omega) (by omega)
        omega
      · exact hz
      · have : q * 1 ≤ q * z := Int.mul_le_mul_of_nonneg_left (by omega) (by omega)
        omega
    rw [h0] at hk
    omega
  · rw [if_neg h, if_neg h]
    have hk : q * (Int.tdiv p q - p / q) = p % q - Int.tmod p q := by rw [Int.mul_sub]; omega
    have h0 : Int.tdiv p q - p / q = 0 := by
      generalize Int.tdiv p q - p / q = z at hk
      rcases Int.lt_trichotomy z 0 with hz | hz | hz
      · have : q * z ≤ q * (-1) := Int.mul_le_mul_of_nonneg_left (by omega) (by omega)
        omega
      · exact hz
      · have : q * 1 ≤ q * z := Int.mul_le_mul_of_nonneg_left (by omega) (by omega)
        omega
    rw [h0] at hk
    omega
theorem div_bd {p q B : Int} (hq : 0 < q) (h0 : -B ≤ p) (h1 : p ≤ B) (hB : 0 ≤ B) : -B - 1 ≤ p / q ∧ p / q ≤ B := by
  have e2 := Int.emod_add_mul_ediv p q
  have b1 := Int.emod_nonneg p (show q ≠ 0 by omega)
  have b2 := Int.emod_lt_of_pos p hq
  generalize p / q = z at *
  rcases Int.lt_or_le z 0 with hz | hz
  · refine ⟨?_, by omega⟩
    rcases Int.lt_or_le z (-B - 1) with hl | hl
    · exfalso
      have : q * (z + 1) ≤ 1 * (z + 1) := by
        have := Int.mul_le_mul_of_nonpos_right (show (1 : Int) ≤ q by omega) (show z + 1 ≤ 0 by omega)
        omega
      rw [Int.mul_add] at this
      omega
    · exact hl
  · have : 1 * z ≤ q * z := Int.mul_le_mul_of_nonneg_right (by omega) hz
    omega
theorem down_f {p q : Int} (hq : 0 < q) (h0 : -1000000000000 ≤ p) (h1 : p ≤ 1000000000000) : spec_l14Down.f p q = some (p / q) := by
  obtain ⟨e, _⟩ := tdiv_e (p := p) hq
  obtain ⟨d1, d2⟩ := div_bd hq h0 h1 (by omega)
  unfold spec_l14Down.f
  rw [if_neg (by omega)]
  by_cases c : Int.tmod p q < 0
  · rw [if_pos c] at e
    rw [if_pos c, w_id (a := Int.tdiv p q) (by omega) (by omega), w_id (by omega) (by omega), e]
  · rw [if_neg c] at e
    rw [if_neg c, w_id (by omega) (by omega), e]
theorem low_f {p q : Int} (hq : 0 < q) (hq2 : q ≤ 10000000) (h0 : -1000000000000 ≤ p) (h1 : p ≤ 1000000000000) : wrap64 (p - wrap64 (p / q * q)) = p % q := by
  have e2 := Int.emod_add_mul_ediv p q
  have b1 := Int.emod_nonneg p (show q ≠ 0 by omega)
  have b2 := Int.emod_lt_of_pos p hq
  rw [Int.mul_comm] at e2
  rw [w_id (a := p / q * q) (by omega) (by omega), w_id (by omega) (by omega)]
  omega
theorem neg_mod {q r : Nat} (hr : 0 < r) : (-(q : Int)) % (r : Int) = ((q % r : Nat) : Int) ∨ (-(q : Int)) % (r : Int) = (r : Int) - ((q % r : Nat) : Int) := by
  have e1 := Int.emod_add_mul_ediv (-(q : Int)) (r : Int)
  have b1 := Int.emod_nonneg (-(q : Int)) (show (r : Int) ≠ 0 by omega)
  have b2 := Int.emod_lt_of_pos (-(q : Int)) (show (0 : Int) < (r : Int) by omega)
  have e2 := Int.emod_add_mul_ediv (q : Int) (r : Int)
  have b3 := Int.emod_nonneg (q : Int) (show (r : Int) ≠ 0 by omega)
  have b4 := Int.emod_lt_of_pos (q : Int) (show (0 : Int) < (r : Int) by omega)
  rw [Int.natCast_emod]
  have hk : (r : Int) * ((-(q : Int)) / (r : Int) + (q : Int) / (r : Int)) = -((-(q : Int)) % (r : Int) + (q : Int) % (r : Int)) := by rw [Int.mul_add]; omega
  generalize (-(q : Int)) / (r : Int) + (q : Int) / (r : Int) = z at hk
  generalize (-(q : Int)) % (r : Int) = u at *
  generalize (q : Int) % (r : Int) = v at *
  rcases Int.lt_or_le z (-1) with hz | hz
  · exfalso
    have : (r : Int) * z ≤ (r : Int) * (-2) := Int.mul_le_mul_of_nonneg_left (by omega) (by omega)
    omega
  · rcases Int.lt_or_le z 0 with h2 | h2
    · have : z = -1 := by omega
      subst this
      exact .inr (by omega)
    · have : (r : Int) * 0 ≤ (r : Int) * z := Int.mul_le_mul_of_nonneg_left h2 (by omega)
      exact .inl (by omega)
theorem spec_far {q r n : Nat} (h : Far q r n) : ∀ (p : Int) (k : Nat), q ≤ 10000000 → -1000000000000 ≤ p → p ≤ 1000000000000 → (q ≤ 1 ∨ p % (q : Int) = (r : Int) ∨ p % (q : Int) = (q : Int) - (r : Int)) → q < k → spec_l14Far.f k p (q : Int) = some (n : Int) := by
  induction h with
  | small hq =>
    intro p k hm _ _ _ hk
    obtain ⟨k, rfl⟩ : ∃ m, k = m + 1 := ⟨k - 1, by omega⟩
    rw [spec_l14Far.f, if_pos (by omega)]
  | @step q r a b h2 h1 hlt ha hb iha ihb =>
    intro p k hm p0 p1 hp hk
    obtain ⟨k, rfl⟩ : ∃ m, k = m + 1 := ⟨k - 1, by omega⟩
    have la := ha.le
    have lb := hb.le
    have hL := low_f (p := p) (q := (q : Int)) (by omega) (by omega) p0 p1
    rw [spec_l14Far.f, if_neg (by omega), down_f (by omega) p0 p1, Option.bind_some, hL, w_id (a := -(q : Int)) (by omega) (by omega)]
    have en := neg_mod (q := q) (r := r) h1
    have em := neg_mod (q := q) (r := q - r) (by omega)
    rcases hp with hp | hp | hp
    · omega
    · rw [hp, iha (-(q : Int)) k (by omega) (by omega) (by omega) (.inr en) (by omega), Option.bind_some, w_id (by omega) (by omega), show (q : Int) - (r : Int) = ((q - r : Nat) : Int) by omega,
        ihb (q : Int) k (by omega) (by omega) (by omega) (.inr (.inl (Int.natCast_emod _ _).symm)) (by omega), Option.bind_some]
      unfold spec_l1Min.f
      by_cases c : (a : Int) < (b : Int)
      · rw [if_pos c, Option.bind_some, w_id (by omega) (by omega), Nat.min_eq_left (by omega)]; simp
      · rw [if_neg c, Option.bind_some, w_id (by omega) (by omega), Nat.min_eq_right (by omega)]; simp
    · rw [hp, show (q : Int) - (r : Int) = ((q - r : Nat) : Int) by omega, ihb (-(q : Int)) k (by omega) (by omega) (by omega) (.inr em) (by omega), Option.bind_some, w_id (by omega) (by omega), show (q : Int) - ((q - r : Nat) : Int) = (r : Int) by omega,
        iha (q : Int) k (by omega) (by omega) (by omega) (.inr (.inl (Int.natCast_emod _ _).symm)) (by omega), Option.bind_some]
      unfold spec_l1Min.f
      by_cases c : (b : Int) < (a : Int)
      · rw [if_pos c, Option.bind_some, w_id (by omega) (by omega), Nat.min_eq_right (by omega)]; simp
      · rw [if_neg c, Option.bind_some, w_id (by omega) (by omega), Nat.min_eq_left (by omega)]; simp
end Go.Proofs.Ytkblceinidiidaa.L

namespace Go.Proofs.Ytkblceinidiidaa.L
open Go.RowKit Go.Proofs.Ytkblceinidiidaa.P Go.Proofs.Ytkblceinidiidaa.Help Go.Proofs.YtkblceinidiidaaW.PrintWords Go.Proofs.YtkblceinidiidaaW.PrintMore
set_option linter.unusedVariables false
set_option linter.unusedSimpArgs false
theorem pigeon : ∀ (N : Nat) (l : List Nat), l.Nodup → (∀ x ∈ l, x < N) → l.length ≤ N
  | 0, l, _, h => by
    cases l with
    | nil => simp
    | cons a l => exact absurd (h a (by simp)) (by omega)
  | N + 1, l, hd, h => by
    by_cases hN : N ∈ l
    · have h1 := pigeon N (l.erase N) (hd.erase N) (fun x hx => by
        have h2 := (hd.mem_erase_iff).1 hx
        have h3 := h x h2.2
        have h4 := h2.1
        omega)
      rw [List.length_erase_of_mem hN] at h1
      omega
    · have h1 := pigeon N l hd (fun x hx => by
        have h3 := h x hx
        have h4 : x ≠ N := fun e => hN (e ▸ hx)
        omega)
      omega
theorem wf_i {x : Int} (h0 : -9223372036854775808 ≤ x) (h1 : x ≤ 9223372036854775807) : (Lit.int .i64 x).wf = true := by
  have e1 : IntKind.i64.min = -9223372036854775808 := by decide
  have e2 : IntKind.i64.max = 9223372036854775807 := by decide
  simp only [Lit.wf, e1, e2, Bool.and_eq_true, decide_eq_true_eq]
  exact ⟨h0, h1⟩
/-- What the memory holds. -/
structure Kn (kn : List ((Int × Int) × Int)) : Prop where
  good : ∀ e ∈ kn, ∃ q r n : Nat, e = (((q : Int), (r : Int)), (n : Int)) ∧ Far q r n ∧ r < q ∧ q ≤ 4194303
  nodup : (kn.map Prod.fst).Nodup
theorem look_mem {kn : List ((Int × Int) × Int)} {key : Int × Int} {v : Int} (h : kn.lookup key = some v) : (key, v) ∈ kn := by
  induction kn with
  | nil => cases h
  | cons e t ih =>
    obtain ⟨k, u⟩ := e
    rw [List.lookup_cons] at h
    by_cases c : key == k
    · rw [c] at h
      obtain rfl := Option.some.inj h
      rw [eq_of_beq c]
      exact List.mem_cons_self
    · rw [Bool.eq_false_iff.mpr c] at h
      exact List.mem_cons_of_mem _ (ih h)
theorem look_none {kn : List ((Int × Int) × Int)} {key : Int × Int} (h : kn.lookup key = none) : key ∉ kn.map Prod.fst := by
  induction kn with
  | nil => simp
  | cons e t ih =>
    obtain ⟨k, u⟩ := e
    rw [List.lookup_cons] at h
    by_cases c : key == k
    · rw [c] at h; cases h
    · rw [Bool.eq_false_iff.mpr c] at h
      rw [List.map_cons]
      intro hm
      rcases List.mem_cons.1 hm with e1 | e1
      · exact c (beq_iff_eq.2 e1)
      · exact ih h e1
theorem Kn.short {kn : List ((Int × Int) × Int)} (h : Kn kn) : kn.length < maxLen := by
  have h1 := pigeon 35184372088832 ((kn.map Prod.fst).map fun k => k.1.toNat * 4194304 + k.2.toNat) (by
    refine List.pairwise_map.2 (List.Pairwise.imp_of_mem ?_ h.nodup)
    intro a b ha hb hab e
    obtain ⟨x, hx, rfl⟩ := List.mem_map.1 ha
    obtain ⟨y, hy, rfl⟩ := List.mem_map.1 hb
    obtain ⟨q, r, n, rfl, _, h2, h3⟩ := h.good x hx
    obtain ⟨q', r', n', rfl, _, h2', h3'⟩ := h.good y hy
    apply hab
    dsimp only at e ⊢
    rw [Int.toNat_natCast, Int.toNat_natCast, Int.toNat_natCast, Int.toNat_natCast] at e
    have e1 : q = q' := by omega
    have e2 : r = r' := by omega
    rw [e1, e2]) (by
    intro z hz
    obtain ⟨k, hk, rfl⟩ := List.mem_map.1 hz
    obtain ⟨x, hx, rfl⟩ := List.mem_map.1 hk
    obtain ⟨q, r, n, rfl, _, h2, h3⟩ := h.good x hx
    dsimp only
    rw [Int.toNat_natCast, Int.toNat_natCast]
    omega)
  rw [List.length_map, List.length_map] at h1
  unfold maxLen
  omega
theorem size_f {q0 : Int} {q : Nat} (h : q0.natAbs = q) (hq : q ≤ 4194303) : impl_size.f q0 = some (q : Int) := by
  unfold impl_size.f mx
  rw [w_id (by omega) (by omega)]
  split <;> (congr 1; omega)
theorem mod_f {p q : Int} (hq : 0 < q) (hq2 : q ≤ 4194303) : impl_mod.f p q = some (p % q) := by
  obtain ⟨_, e⟩ := tdiv_e (p := p) hq
  have b1 := Int.emod_nonneg p (show q ≠ 0 by omega)
  have b2 := Int.emod_lt_of_pos p hq
  unfold impl_mod.f
  rw [if_neg (by omega)]
  by_cases c : Int.tmod p q < 0
  · rw [if_pos c] at e
    rw [if_pos c, e, w_id (by omega) (by omega)]
  · rw [if_neg c] at e
    rw [if_neg c, e]
theorem impl_far {q r n : Nat} (h : Far q r n) : ∀ (p q0 : Int) (k : Nat) (kn : List ((Int × Int) × Int)), q0.natAbs = q → q ≤ 4194303 → (q ≤ 1 ∨ p % (q : Int) = (r : Int)) → Kn kn → q < k → ∃ kn', farey_distance.f k kn p q0 = some ((n : Int), kn') ∧ Kn kn' ∧ ∀ key ∈ kn'.map Prod.fst, key ∈ kn.map Prod.fst ∨ key.1 ≤ (q : Int) := by
  induction h with
  | @small q r hq =>
    intro p q0 k kn h0 hm _ hK hk
    obtain ⟨k, rfl⟩ : ∃ m, k = m + 1 := ⟨k - 1, by omega⟩
    refine ⟨kn, ?_, hK, fun key h => .inl h⟩
    rw [farey_distance.f, size_f h0 hm, Option.bind_some, if_pos (by omega)]
  | @step q r a b h2 h1 hlt ha hb iha ihb =>
    intro p q0 k kn h0 hm hp hK hk
    obtain ⟨k, rfl⟩ : ∃ m, k = m + 1 := ⟨k - 1, by omega⟩
    have la := ha.le
    have lb := hb.le
    have hp' : p % (q : Int) = (r : Int) := by omega
    have hF := Far.step h2 h1 hlt ha hb
    rw [farey_distance.f, size_f h0 hm, Option.bind_some, if_neg (by omega), mod_f (by omega) (by omega), Option.bind_some, hp', if_pos (wf_i (by omega) (by omega)), if_pos (wf_i (by omega) (by omega))]
    cases e : kn.lookup ((q : Int), (r : Int)) with
    | some v =>
      obtain ⟨q', r', n', e2, hF', _, _⟩ := hK.good _ (look_mem e)
      injection e2 with e3 e4
      injection e3 with e5 e6
      have e7 : q = q' := by omega
      have e8 : r = r' := by omega
      subst e7
      subst e8
      rw [e4, hF'.uniq hF]
      exact ⟨kn, rfl, hK, fun key h => .inl h⟩
    | none =>
      obtain ⟨kn1, f1, K1, M1⟩ := iha (q : Int) (r : Int) k kn (by omega) (by omega) (.inr (Int.natCast_emod _ _).symm) hK (by omega)
      obtain ⟨kn2, f2, K2, M2⟩ := ihb (q : Int) ((q : Int) - (r : Int)) k kn1 (by omega) (by omega) (.inr (by rw [show (((q - r : Nat) : Int)) = ((q - r : Nat) : Int) from rfl, ← Int.natCast_emod])) K1 (by omega)
      have hs := K2.short
      have hmn : wrap64 (1 + mn (a : Int) (b : Int)) = ((1 + min a b : Nat) : Int) := by
        unfold mn
        by_cases c : (b : Int) < (a : Int)
        · rw [if_pos c, w_id (by omega) (by omega), Nat.min_eq_right (by omega)]; simp
        · rw [if_neg c, w_id (by omega) (by omega), Nat.min_eq_left (by omega)]; simp
      dsimp only
      rw [f1, Option.bind_some, w_id (a := (q : Int) - (r : Int)) (by omega) (by omega)]
      dsimp only
      rw [f2, Option.bind_some]
      dsimp only
      rw [hmn, if_pos (wf_i (by omega) (by omega)), if_pos hs]
      refine ⟨_, rfl, ⟨fun x hx => ?_, ?_⟩, fun key hk2 => ?_⟩
      · rcases List.mem_cons.1 hx with rfl | hx
        · exact ⟨q, r, 1 + min a b, rfl, hF, hlt, hm⟩
        · exact K2.good x hx
      · rw [List.map_cons]
        refine List.nodup_cons.2 ⟨fun hc => ?_, K2.nodup⟩
        rcases M2 _ hc with hc | hc
        · rcases M1 _ hc with hc | hc
          · exact look_none e hc
          · dsimp only at hc
            omega
        · dsimp only at hc
          omega
      · rw [List.map_cons] at hk2
        rcases List.mem_cons.1 hk2 with rfl | hk2
        · exact .inr (Int.le_refl _)
        · rcases M2 _ hk2 with hc | hc
          · rcases M1 _ hc with hc | hc
            · exact .inl hc
            · exact .inr (by omega)
          · exact .inr (by omega)
end Go.Proofs.Ytkblceinidiidaa.L

namespace Go.Proofs.Ytkblceinidiidaa.L
open Go.RowKit Go.Proofs.Ytkblceinidiidaa.P Go.Proofs.Ytkblceinidiidaa.Help Go.Proofs.YtkblceinidiidaaW.PrintWords Go.Proofs.YtkblceinidiidaaW.PrintMore
set_option linter.unusedVariables false
set_option linter.unusedSimpArgs false
theorem bit_f (b : Bool) : spec_l1Bit.f b = some (if b = true then 1 else 0) := by
  cases b <;> rfl
theorem wn {z : Int} (h : z.natAbs ≤ 9000000) : wrap64 z = z := w_id (by omega) (by omega)
theorem euc : ∀ (N : Nat) (a b : Int), b.natAbs ≤ N → a.natAbs ≤ 1000 → b.natAbs ≤ 1000 → Int.gcd a b = 1 → ∀ k, N < k → ∃ x y : Int, impl_euclid.f k a b = some (x, y) ∧ spec_l14Bezout.f k a b = some (x, y) ∧ a * x + b * y = 1 ∧ (b = 0 → x = a ∧ y = 0) ∧ (b ≠ 0 → x.natAbs ≤ b.natAbs) ∧ y.natAbs ≤ max 1 a.natAbs := by
  intro N
  induction N with
  | zero =>
    intro a b hb ha hb2 hg k hk
    obtain ⟨k, rfl⟩ : ∃ m, k = m + 1 := ⟨k - 1, by omega⟩
    have h0 : b = 0 := by omega
    subst h0
    have ha1 : a.natAbs = 1 := by rw [Int.gcd_zero_right] at hg; exact hg
    refine ⟨a, 0, ?_, ?_, ?_, fun _ => ⟨rfl, rfl⟩, fun h => absurd rfl h, by simp⟩
    · rw [impl_euclid.f, if_pos rfl]
    · rw [spec_l14Bezout.f, if_pos rfl, bit_f, bit_f, Option.bind_some, Option.bind_some]
      rcases (show a = 1 ∨ a = -1 by omega) with rfl | rfl
      · show some (wrap64 (1 - 0), (0 : Int)) = some (1, 0)
        rw [w_id (by decide) (by decide)]
        rfl
      · show some (wrap64 (0 - 1), (0 : Int)) = some (-1, 0)
        rw [w_id (by decide) (by decide)]
        rfl
    · rcases (show a = 1 ∨ a = -1 by omega) with rfl | rfl
      · rfl
      · rfl
  | succ N ih =>
    intro a b hb ha hb2 hg k hk
    obtain ⟨k, rfl⟩ : ∃ m, k = m + 1 := ⟨k - 1, by omega⟩
    by_cases h0 : b = 0
    · obtain ⟨x, y, h⟩ := ih a b (by omega) ha hb2 hg (k + 1) (by omega)
      exact ⟨x, y, h⟩
    · have e1 := Int.tmod_add_mul_tdiv a b
      have hc : (Int.tmod a b).natAbs < b.natAbs := by rw [Int.natAbs_tmod]; exact Nat.mod_lt _ (by omega)
      have hab : (a - Int.tmod a b).natAbs ≤ 9000000 := by clear e1; omega
      have hcm : (Int.tmod a b).natAbs ≤ 9000000 := by clear e1; omega
      have hc2 : (Int.tmod a b).natAbs = a.natAbs % b.natAbs := Int.natAbs_tmod a b
      have hk2 : (Int.tdiv a b).natAbs = a.natAbs / b.natAbs := Int.natAbs_tdiv a b
      have hg2 : Int.gcd b (Int.tmod a b) = 1 := by
        unfold Int.gcd at hg ⊢
        rw [hc2, Nat.gcd_comm, ← Nat.gcd_rec, Nat.gcd_comm]
        exact hg
      have hdm := Nat.div_add_mod a.natAbs b.natAbs
      obtain ⟨x, y, f1, f2, f3, f4, f5, f6⟩ := ih b (Int.tmod a b) (by omega) hb2 (by omega) hg2 k (by omega)
      have hkb : (Int.tdiv a b).natAbs ≤ 1000 := by
        rw [hk2]
        exact Nat.le_trans (Nat.div_le_self _ _) ha
      have hky : (Int.tdiv a b * y).natAbs ≤ 1000000 := by
        rw [Int.natAbs_mul]
        have : y.natAbs ≤ 1000 := by omega
        exact Nat.le_trans (Nat.mul_le_mul hkb this) (by omega)
      have hkb2 : (Int.tdiv a b * b) = a - Int.tmod a b := by rw [Int.mul_comm]; omega
      have hx : x.natAbs ≤ 1000 := by
        by_cases c : Int.tmod a b = 0
        · rw [(f4 c).1]; omega
        · have := f5 c; omega
      have hy : (x - Int.tdiv a b * y).natAbs ≤ max 1 a.natAbs := by
        by_cases c : Int.tmod a b = 0
        · obtain ⟨g1, g2⟩ := f4 c
          have hb1 : b.natAbs = 1 := by rw [c, Int.gcd_zero_right] at hg2; exact hg2
          rw [g1, g2, Int.mul_zero]
          omega
        · have g1 := f5 c
          have g2 : (Int.tdiv a b * y).natAbs ≤ b.natAbs * (a.natAbs / b.natAbs) := by
            rw [Int.natAbs_mul, hk2, Nat.mul_comm]
            exact Nat.mul_le_mul_right _ (by omega)
          omega
      have hy9 : (x - Int.tdiv a b * y).natAbs ≤ 9000000 := Nat.le_trans hy (Nat.max_le.2 ⟨by decide, Nat.le_trans ha (by decide)⟩)
      have hyb : y.natAbs ≤ b.natAbs := by clear hdm hg2 hg e1 hkb2 hky hkb hk2 hc2 hab hcm f3; omega
      refine ⟨y, x - Int.tdiv a b * y, ?_, ?_, ?_, fun h => absurd h h0, fun _ => hyb, hy⟩
      · rw [impl_euclid.f, if_neg h0, f1, Option.bind_some, wn (z := Int.tdiv a b) (Nat.le_trans hkb (by decide)), wn (z := Int.tdiv a b * y) (Nat.le_trans hky (by decide)), wn hy9]
      · rw [spec_l14Bezout.f, if_neg h0, wn (z := Int.tdiv a b) (Nat.le_trans hkb (by decide)), hkb2, wn hab, Int.sub_sub_self, wn hcm, f2, Option.bind_some, wn (z := Int.tdiv a b * y) (Nat.le_trans hky (by decide)), wn hy9]
      · have e2 : a * y = (Int.tmod a b + b * Int.tdiv a b) * y := by rw [e1]
        rw [e2, Int.add_mul, Int.mul_sub, Int.mul_assoc]
        clear hdm hg2 hg hkb2 hky hkb hk2 hc2 hab hcm hy hy9 hyb e2 f4 f5 f6
        omega
end Go.Proofs.Ytkblceinidiidaa.L

namespace Go.Proofs.Ytkblceinidiidaa.L
open Go.RowKit Go.Proofs.Ytkblceinidiidaa.P Go.Proofs.Ytkblceinidiidaa.Help Go.Proofs.YtkblceinidiidaaW.PrintWords
set_option linter.unusedVariables false
set_option linter.unusedSimpArgs false
theorem isS_ok {p q : Int} (h : isS p q = true) : p.natAbs ≤ 1000 ∧ q.natAbs ≤ 1000 ∧ Int.gcd p q = 1 := by
  unfold isS at h
  have h := of_decide_eq_true h
  exact ⟨by omega, by omega, h.2.2.1⟩
theorem gcd_one {a b c d x y : Int} (h : a * x + b * y = 1) (hg : Int.gcd c d = 1) : Int.gcd (a * d - b * c) (x * c + y * d) = 1 := by
  have h1 : (Int.gcd (a * d - b * c) (x * c + y * d) : Int) ∣ (a * d - b * c) := Int.gcd_dvd_left ..
  have h2 : (Int.gcd (a * d - b * c) (x * c + y * d) : Int) ∣ (x * c + y * d) := Int.gcd_dvd_right ..
  have e1 : a * (x * c + y * d) - y * (a * d - b * c) = c * (a * x + b * y) := by
    simp only [Int.mul_add, Int.mul_sub, Int.mul_comm, Int.mul_left_comm]
    omega
  have e2 : b * (x * c + y * d) + x * (a * d - b * c) = d * (a * x + b * y) := by
    simp only [Int.mul_add, Int.mul_sub, Int.mul_comm, Int.mul_left_comm]
    omega
  rw [h, Int.mul_one] at e1 e2
  have hc := Int.dvd_sub (Int.dvd_trans h2 (Int.dvd_mul_left a (x * c + y * d))) (Int.dvd_trans h1 (Int.dvd_mul_left y (a * d - b * c)))
  have hd := Int.dvd_add (Int.dvd_trans h2 (Int.dvd_mul_left b (x * c + y * d))) (Int.dvd_trans h1 (Int.dvd_mul_left x (a * d - b * c)))
  rw [e1] at hc
  rw [e2] at hd
  have := Int.dvd_coe_gcd hc hd
  rw [hg] at this
  have h3 := Int.natAbs_dvd_natAbs.2 this
  simpa using h3
theorem neg_modI {p : Int} {r : Nat} (hr : 0 < r) : (-p) % (r : Int) = p % (r : Int) ∨ (-p) % (r : Int) = (r : Int) - p % (r : Int) := by
  have e1 := Int.emod_add_mul_ediv (-p) (r : Int)
  have b1 := Int.emod_nonneg (-p) (show (r : Int) ≠ 0 by omega)
  have b2 := Int.emod_lt_of_pos (-p) (show (0 : Int) < (r : Int) by omega)
  have e2 := Int.emod_add_mul_ediv p (r : Int)
  have b3 := Int.emod_nonneg p (show (r : Int) ≠ 0 by omega)
  have b4 := Int.emod_lt_of_pos p (show (0 : Int) < (r : Int) by omega)
  have hk : (r : Int) * ((-p) / (r : Int) + p / (r : Int)) = -((-p) % (r : Int) + p % (r : Int)) := by rw [Int.mul_add]; omega
  generalize (-p) / (r : Int) + p / (r : Int) = z at hk
  generalize (-p) % (r : Int) = u at *
  generalize p % (r : Int) = v at *
  rcases Int.lt_or_le z (-1) with hz | hz
  · exfalso
    have : (r : Int) * z ≤ (r : Int) * (-2) := Int.mul_le_mul_of_nonneg_left (by omega) (by omega)
    omega
  · rcases Int.lt_or_le z 0 with h2 | h2
    · have : z = -1 := by omega
      subst this
      exact .inr (by omega)
    · have : (r : Int) * 0 ≤ (r : Int) * z := Int.mul_le_mul_of_nonneg_left h2 (by omega)
      exact .inl (by omega)
theorem far_of {p q : Int} (hg : Int.gcd q p = 1) : ∃ n, Far q.natAbs (p % (q.natAbs : Int)).toNat n := by
  refine Far.ex q.natAbs q.natAbs _ (Nat.le_refl _) (fun h2 => ?_)
  have b3 := Int.emod_nonneg p (show (q.natAbs : Int) ≠ 0 by omega)
  have b4 := Int.emod_lt_of_pos p (show (0 : Int) < (q.natAbs : Int) by omega)
  refine ⟨by omega, ?_⟩
  have h3 : (Nat.gcd q.natAbs (p % (q.natAbs : Int)).toNat : Int) ∣ (q.natAbs : Int) := Int.natCast_dvd_natCast.2 (Nat.gcd_dvd_left ..)
  have h4 : (Nat.gcd q.natAbs (p % (q.natAbs : Int)).toNat : Int) ∣ (p % (q.natAbs : Int)) := by
    have := Int.natCast_dvd_natCast.2 (Nat.gcd_dvd_right q.natAbs (p % (q.natAbs : Int)).toNat)
    rwa [Int.toNat_of_nonneg b3] at this
  have h5 : (Nat.gcd q.natAbs (p % (q.natAbs : Int)).toNat : Int) ∣ p := by
    have := Int.dvd_add h4 (Int.dvd_trans h3 (Int.dvd_mul_right (q.natAbs : Int) (p / (q.natAbs : Int))))
    rwa [Int.emod_add_mul_ediv] at this
  have h6 := Int.dvd_coe_gcd (Int.dvd_natAbs.1 h3) h5
  rw [hg] at h6
  have h7 := Int.natAbs_dvd_natAbs.2 h6
  simpa using h7
theorem m6 {x y : Int} (h1 : x.natAbs ≤ 1000) (h2 : y.natAbs ≤ 1000) : (x * y).natAbs ≤ 1000000 := by
  rw [Int.natAbs_mul]
  exact Nat.le_trans (Nat.mul_le_mul h1 h2) (by decide)
theorem Far.pos {q r n : Nat} (h : Far q r n) : n = 0 ↔ q = 0 := by
  cases h with
  | small hq => exact Iff.rfl
  | step h2 _ _ _ _ => omega
theorem both {aP aQ bP bQ : Int} (h1 : isS aP aQ = true) (h2 : isS bP bQ = true) : ∃ n : Nat, spec_SlopeDistance.j0 10000001 false aP aQ bP bQ = some (n : Int) ∧ impl_between.f 10000001 aP aQ bP bQ = some (n : Int) ∧ n ≤ 2000000 ∧ (n = 0 ↔ aP * bQ = aQ * bP) := by
  obtain ⟨i1, i2, i3⟩ := isS_ok h1
  obtain ⟨j1, j2, j3⟩ := isS_ok h2
  obtain ⟨x, y, f1, f2, f3, f4, f5, f6⟩ := euc 1000 aP aQ i2 i1 i2 i3 10000000 (by decide)
  have f1' := impl_euclid.mono aP aQ 10000000 _ f1
  have hx : x.natAbs ≤ 1000 := by
    by_cases c : aQ = 0
    · rw [(f4 c).1]; exact i1
    · exact Nat.le_trans (f5 c) i2
  have hy : y.natAbs ≤ 1000 := Nat.le_trans f6 (Nat.max_le.2 ⟨by decide, i1⟩)
  have hg := gcd_one f3 j3
  have p1 := m6 hx j1
  have p2 := m6 hy j2
  have p3 := m6 i1 j2
  have p4 := m6 i2 j1
  clear f1 f3 f4 f5 f6 h1 h2 i3 j3
  generalize hA : x * bP = A at *
  generalize hB : y * bQ = B at *
  generalize hC : aP * bQ = C at *
  generalize hD : aQ * bP = D at *
  obtain ⟨n, hn⟩ := far_of hg
  have hq : (C - D).natAbs ≤ 2000000 := by omega
  obtain ⟨kn', g1, _⟩ := impl_far hn (A + B) (C - D) 10000001 [] rfl (by omega) (by
    by_cases c : (C - D).natAbs ≤ 1
    · exact .inl c
    · exact .inr (Int.toNat_of_nonneg (Int.emod_nonneg _ (by omega))).symm) ⟨fun _ h => (by cases h), List.nodup_nil⟩ (by omega)
  refine ⟨n, ?_, ?_, Nat.le_trans hn.le hq, by rw [hn.pos]; omega⟩
  · simp only [spec_SlopeDistance.j0]
    rw [if_neg (by decide), f2, Option.bind_some]
    dsimp only
    rw [hA, hB, hC, hD, wn (z := A) (by omega), wn (z := B) (by omega), wn (z := C) (by omega), wn (z := D) (by omega), wn (z := C - D) (by omega), wn (z := A + B) (by omega)]
    by_cases c : C - D < 0
    · rw [if_pos c, wn (z := -(A + B)) (by omega), wn (z := -(C - D)) (by omega)]
      have e := spec_far hn (-(A + B)) 10000000 (by omega) (by omega) (by omega) (by
        rcases neg_modI (p := A + B) (r := (C - D).natAbs) (by omega) with e | e
        · exact .inr (.inl (e.trans (Int.toNat_of_nonneg (Int.emod_nonneg _ (by omega))).symm))
        · exact .inr (.inr (e.trans (congrArg (fun z => ((C - D).natAbs : Int) - z) (Int.toNat_of_nonneg (Int.emod_nonneg _ (by omega))).symm)))) (by omega)
      rw [show (((C - D).natAbs : Nat) : Int) = -(C - D) by omega] at e
      rw [e]
      rfl
    · rw [if_neg c]
      have e := spec_far hn (A + B) 10000000 (by omega) (by omega) (by omega) (by
        by_cases c : (C - D).natAbs ≤ 1
        · exact .inl c
        · exact .inr (.inl (Int.toNat_of_nonneg (Int.emod_nonneg _ (by omega))).symm)) (by omega)
      rw [show (((C - D).natAbs : Nat) : Int) = C - D by omega] at e
      rw [e]
      rfl
  · unfold impl_between.f
    rw [f1', Option.bind_some]
    dsimp only
    rw [hA, hB, hC, hD, wn (z := A) (by omega), wn (z := B) (by omega), wn (z := C) (by omega), wn (z := D) (by omega), wn (z := C - D) (by omega), wn (z := A + B) (by omega), g1]
    rfl
/-- The number. -/
def dS (p q r s : Int) : Int := (impl_between.f 10000001 p q r s).getD 0
theorem more_i {p q r s v : Int} : ∀ (d k : Nat), k = 10000001 + d → impl_between.f 10000001 p q r s = some v → impl_between.f k p q r s = some v
  | 0, k, hk, h => by subst hk; exact h
  | d + 1, k, hk, h => by
    subst hk
    exact impl_between.mono p q r s (10000001 + d) v (more_i d _ rfl h)
theorem more_s {p q r s v : Int} : ∀ (d k : Nat), k = 10000002 + d → spec_SlopeDistance.f 10000002 p q r s = some v → spec_SlopeDistance.f k p q r s = some v
  | 0, k, hk, h => by subst hk; exact h
  | d + 1, k, hk, h => by
    subst hk
    exact spec_SlopeDistance.mono p q r s (10000002 + d) v (more_s d _ rfl h)
theorem dist_f {p q r s : Int} (h1 : isS p q = true) (h2 : isS r s = true) (k : Nat) (hk : 10000002 ≤ k) : impl_between.f k p q r s = some (dS p q r s) ∧ spec_SlopeDistance.f k p q r s = some (dS p q r s) ∧ 0 ≤ dS p q r s ∧ dS p q r s ≤ 2000000 ∧ (dS p q r s = 0 ↔ p * s = q * r) := by
  obtain ⟨n, e1, e2, e3, e4⟩ := both h1 h2
  have ed : dS p q r s = (n : Int) := by unfold dS; rw [e2]; rfl
  rw [ed]
  refine ⟨more_i (k - 10000001) k (by omega) e2, more_s (k - 10000002) k (by omega) ?_, by omega, by omega, by omega⟩
  have e : spec_SlopeDistance.f 10000001 p q r s = some (n : Int) := by
    unfold spec_SlopeDistance.f
    rw [spec_isS p q _ (by decide), Option.bind_some, if_pos h1, spec_isS r s _ (by decide), Option.bind_some, h2]
    exact e1
  exact spec_SlopeDistance.mono p q r s 10000001 _ e
theorem same_of {p q r s : Int} (h1 : isS p q = true) (h2 : isS r s = true) (h : p * s = q * r) : p = r ∧ q = s := by
  obtain ⟨a1, a2, a3, a4⟩ := isS_true h1
  obtain ⟨b1, b2, b3, b4⟩ := isS_true h2
  have d1 : q ∣ s := by
    have h5 := Int.natAbs_dvd_natAbs.2 (⟨r, h⟩ : q ∣ p * s)
    rw [Int.natAbs_mul] at h5
    exact Int.natAbs_dvd_natAbs.1 (Nat.Coprime.dvd_of_dvd_mul_left (show Nat.gcd q.natAbs p.natAbs = 1 from (Nat.gcd_comm _ _).trans a3) h5)
  have d2 : s ∣ q := by
    have h5 := Int.natAbs_dvd_natAbs.2 (⟨p, by rw [Int.mul_comm r q, ← h, Int.mul_comm]⟩ : s ∣ r * q)
    rw [Int.natAbs_mul] at h5
    exact Int.natAbs_dvd_natAbs.1 (Nat.Coprime.dvd_of_dvd_mul_left (show Nat.gcd s.natAbs r.natAbs = 1 from (Nat.gcd_comm _ _).trans b3) h5)
  have hqs : q = s := Int.dvd_antisymm a2.1 b2.1 d1 d2
  subst hqs
  refine ⟨?_, rfl⟩
  by_cases h0 : q = 0
  · rw [a4 h0, b4 h0]
  · rw [Int.mul_comm q r] at h
    exact Int.eq_of_mul_eq_mul_right h0 h
end Go.Proofs.Ytkblceinidiidaa.L

namespace Go.Proofs.Ytkblceinidiidaa.L
open Go.RowKit Go.Proofs.Ytkblceinidiidaa.P Go.Proofs.Ytkblceinidiidaa.Help Go.Proofs.YtkblceinidiidaaW.PrintWords
set_option linter.unusedVariables false
set_option linter.unusedSimpArgs false
theorem rowS_is : ∀ (n : Nat) (p q : Int), ∀ t ∈ rowS n p q, isS t.f0 t.f1 = true
  | 0, _, _ => fun t h => by cases h
  | n + 1, p, q => fun t h => by
    rw [rowS] at h
    by_cases c : isS p q = true
    · rw [if_pos c] at h
      rcases List.mem_cons.1 h with rfl | h
      · exact c
      · exact rowS_is n (p + 1) q t h
    · rw [if_neg c] at h
      exact rowS_is n (p + 1) q t h
theorem allS_is (most : Int) : ∀ (n : Nat) (q : Int), ∀ t ∈ allS most n q, isS t.f0 t.f1 = true
  | 0, _ => fun t h => by cases h
  | n + 1, q => fun t h => by
    rw [allS] at h
    rcases List.mem_append.1 h with h | h
    · exact rowS_is _ _ _ t h
    · exact allS_is most n (q + 1) t h
theorem allR_is (most : Int) : ∀ t ∈ allR most, isS t.f0 t.f1 = true := allS_is most _ _
/-- The nearest, the first of them. -/
def scan (r s : Int) : List S25 → Int → Int → Int → Int × Int × Int
  | [], b, x, y => (b, x, y)
  | t :: l, b, x, y => if dS t.f0 t.f1 r s < b then scan r s l (dS t.f0 t.f1 r s) t.f0 t.f1 else scan r s l b x y
theorem scan_le (r s : Int) : ∀ (l : List S25) (b x y : Int), (scan r s l b x y).1 ≤ b
  | [], b, x, y => Int.le_refl _
  | t :: l, b, x, y => by
    rw [scan]
    by_cases c : dS t.f0 t.f1 r s < b
    · rw [if_pos c]
      have := scan_le r s l (dS t.f0 t.f1 r s) t.f0 t.f1
      omega
    · rw [if_neg c]
      exact scan_le r s l b x y
theorem scan_ind (r s : Int) : ∀ (l : List S25) (b x y x2 y2 : Int), (scan r s l b x y).1 = (scan r s l b x2 y2).1 ∧ ((scan r s l b x y).1 < b → scan r s l b x y = scan r s l b x2 y2)
  | [], b, x, y, x2, y2 => ⟨rfl, fun h => absurd h (Int.lt_irrefl _)⟩
  | t :: l, b, x, y, x2, y2 => by
    rw [scan, scan]
    by_cases c : dS t.f0 t.f1 r s < b
    · rw [if_pos c, if_pos c]
      exact ⟨rfl, fun _ => rfl⟩
    · rw [if_neg c, if_neg c]
      exact scan_ind r s l b x y x2 y2
theorem scan_mem (r s : Int) : ∀ (l : List S25) (b x y : Int), scan r s l b x y = (b, x, y) ∨ ((scan r s l b x y).1 < b ∧ ∃ t ∈ l, scan r s l b x y = (dS t.f0 t.f1 r s, t.f0, t.f1))
  | [], b, x, y => .inl rfl
  | t :: l, b, x, y => by
    rw [scan]
    by_cases c : dS t.f0 t.f1 r s < b
    · rw [if_pos c]
      rcases scan_mem r s l (dS t.f0 t.f1 r s) t.f0 t.f1 with h | ⟨h1, u, hu, h2⟩
      · exact .inr ⟨by rw [h]; exact c, t, List.mem_cons_self, h⟩
      · exact .inr ⟨by omega, u, List.mem_cons_of_mem _ hu, h2⟩
    · rw [if_neg c]
      rcases scan_mem r s l b x y with h | ⟨h1, u, hu, h2⟩
      · exact .inl h
      · exact .inr ⟨h1, u, List.mem_cons_of_mem _ hu, h2⟩
theorem im_st1 {r s : Int} (hs : isS r s = true) (xs : List S25) (hx : xs.length ≤ 30000) (his : ∀ t ∈ xs, isS t.f0 t.f1 = true) (out : List S25) (left : Int) : ∀ (d k i : Nat) (b x y : Int), i + d = xs.length → 10000002 + d < k →
    impl_StepsBetween.l1 k out left b xs (xs.length : Int) (i : Int) r s x y = (if (scan r s (xs.drop i) b x y).1 = left then some [] else (if out.length < 8796093022208 then impl_StepsBetween.l0 (k - d - 1) (out ++ [⟨(scan r s (xs.drop i) b x y).2.1, (scan r s (xs.drop i) b x y).2.2⟩]) (scan r s (xs.drop i) b x y).1 r s (scan r s (xs.drop i) b x y).2.1 (scan r s (xs.drop i) b x y).2.2 else none))
  | 0, k, i, b, x, y, hi, hk => by
    obtain ⟨k, rfl⟩ : ∃ m, k = m + 1 := ⟨k - 1, by omega⟩
    rw [List.drop_eq_nil_of_le (by omega), show k + 1 - 0 - 1 = k by omega]
    conv => lhs; simp only [impl_StepsBetween.l1]
    rw [if_neg (by omega)]
    rfl
  | d + 1, k, i, b, x, y, hi, hk => by
    obtain ⟨k, rfl⟩ : ∃ m, k = m + 1 := ⟨k - 1, by omega⟩
    have hlt : i < xs.length := by omega
    obtain ⟨e1, _⟩ := dist_f (his _ (List.getElem_mem hlt)) hs k (by omega)
    conv => lhs; simp only [impl_StepsBetween.l1]
    rw [if_pos (by omega), if_pos (by omega), if_pos (by omega), rdT_nat xs i hlt, e1, Option.bind_some, w_id (a := (i : Int) + 1) (by omega) (by omega), show ((i : Int) + 1) = ((i + 1 : Nat) : Int) by omega, List.drop_eq_getElem_cons hlt, scan, show k + 1 - (d + 1) - 1 = k - d - 1 by omega]
    by_cases c : dS xs[i].f0 xs[i].f1 r s < b
    · rw [if_pos c, if_pos c]
      exact im_st1 hs xs hx his out left d k (i + 1) _ _ _ (by omega) (by omega)
    · rw [if_neg c, if_neg c]
      exact im_st1 hs xs hx his out left d k (i + 1) _ _ _ (by omega) (by omega)
theorem sp_st1 {p q r s : Int} (hs : isS r s = true) (xs : List S25) (hx : xs.length ≤ 30000) (his : ∀ t ∈ xs, isS t.f0 t.f1 = true) (out : List S25) : ∀ (d k i : Nat) (b x y : Int), i + d = xs.length → 10000002 + d < k →
    spec_StepsBetween.l1 k out xs b (i : Int) r s p q x y = (if ((scan r s ((xs.drop i).filter (crossing p q)) b x y).2.1 == p && (scan r s ((xs.drop i).filter (crossing p q)) b x y).2.2 == q) = true then some [] else (if out.length < 8796093022208 then spec_StepsBetween.l0 (k - d - 1) (out ++ [⟨(scan r s ((xs.drop i).filter (crossing p q)) b x y).2.1, (scan r s ((xs.drop i).filter (crossing p q)) b x y).2.2⟩]) xs r s else none))
  | 0, k, i, b, x, y, hi, hk => by
    obtain ⟨k, rfl⟩ : ∃ m, k = m + 1 := ⟨k - 1, by omega⟩
    rw [List.drop_eq_nil_of_le (by omega), show k + 1 - 0 - 1 = k by omega]
    conv => lhs; simp only [spec_StepsBetween.l1]
    rw [if_neg (by omega)]
    rfl
  | d + 1, k, i, b, x, y, hi, hk => by
    obtain ⟨k, rfl⟩ : ∃ m, k = m + 1 := ⟨k - 1, by omega⟩
    have hlt : i < xs.length := by omega
    obtain ⟨_, e1, _⟩ := dist_f (his _ (List.getElem_mem hlt)) hs k (by omega)
    conv => lhs; simp only [spec_StepsBetween.l1]
    rw [if_pos (by omega), if_pos (by omega), rdT_nat xs i hlt, spec_cross _ _ _ _ k (by omega), Option.bind_some, w_id (a := (i : Int) + 1) (by omega) (by omega), show ((i : Int) + 1) = ((i + 1 : Nat) : Int) by omega, List.drop_eq_getElem_cons hlt, List.filter_cons, show k + 1 - (d + 1) - 1 = k - d - 1 by omega]
    by_cases h : crossR p q xs[i].f0 xs[i].f1 = 1
    · rw [if_pos h, e1, Option.bind_some, Option.bind_some, if_pos (show crossing p q xs[i] = true from decide_eq_true h), scan]
      by_cases c : dS xs[i].f0 xs[i].f1 r s < b
      · rw [if_pos c, if_pos c]
        exact sp_st1 hs xs hx his out d k (i + 1) _ _ _ (by omega) (by omega)
      · rw [if_neg c, if_neg c]
        exact sp_st1 hs xs hx his out d k (i + 1) _ _ _ (by omega) (by omega)
    · rw [if_neg h, if_neg (show ¬ crossing p q xs[i] = true by unfold crossing; simpa using h)]
      exact sp_st1 hs xs hx his out d k (i + 1) _ _ _ (by omega) (by omega)
end Go.Proofs.Ytkblceinidiidaa.L

namespace Go.Proofs.Ytkblceinidiidaa.L
open Go.RowKit Go.Proofs.Ytkblceinidiidaa.P Go.Proofs.Ytkblceinidiidaa.Help Go.Proofs.YtkblceinidiidaaW.PrintWords
set_option linter.unusedVariables false
set_option linter.unusedSimpArgs false
theorem way_both {r s : Int} (hs : isS r s = true) : ∀ (n : Nat) (p q : Int) (out : List S25) (k : Nat), isS p q = true → dS p q r s = (n : Int) → out.length + n ≤ 3000000 → 22000 * n + 11000000 < k →
    ∃ res, impl_StepsBetween.l0 k (out ++ [⟨p, q⟩]) (n : Int) r s p q = some res ∧ spec_StepsBetween.l0 k (out ++ [⟨p, q⟩]) (allR 60) r s = some res ∧ res.length ≤ out.length + n + 1 := by
  intro n
  induction n using Nat.strongRecOn with
  | _ n ih =>
    intro p q out k hp hd ho hk
    obtain ⟨k, rfl⟩ : ∃ m, k = m + 1 := ⟨k - 1, by omega⟩
    have hal := allR_len 60 (by decide)
    have hnl : (nbR p q 60).length ≤ 21000 := Nat.le_trans (List.length_filter_le _ _) hal
    have hni : ∀ t ∈ nbR p q 60, isS t.f0 t.f1 = true := fun t h => allR_is 60 t (List.mem_filter.1 h).1
    obtain ⟨_, e2, e3, e4, e5⟩ := dist_f hp hs k (by omega)
    have hr : rd_T25 (out ++ [⟨p, q⟩]) (out.length : Int) = ⟨p, q⟩ := by
      rw [rdT_nat _ _ (by simp)]
      simp
    have hw : wrap64 (((out ++ [(⟨p, q⟩ : S25)]).length : Int) - 1) = (out.length : Int) := by
      rw [List.length_append, List.length_singleton, w_id (by omega) (by omega)]
      omega
    simp only [impl_StepsBetween.l0, spec_StepsBetween.l0]
    rw [hw, hr, if_pos (show (0 : Int) ≤ (out.length : Int) by omega), if_pos (show (out.length : Int) < ((out ++ [(⟨p, q⟩ : S25)]).length : Int) by rw [List.length_append, List.length_singleton]; omega)]
    by_cases h0 : n = 0
    · subst h0
      have h1 := same_of hp hs (e5.1 hd)
      rw [if_neg (show ¬ ((0 : Nat) : Int) > 0 by decide), if_neg (by simp [h1.1, h1.2])]
      exact ⟨_, rfl, rfl, by simp⟩
    · have h1 : ¬ (p = r ∧ q = s) := fun h => h0 (by
        have := e5.2 (by rw [h.1, h.2, Int.mul_comm])
        omega)
      rw [if_pos (show (n : Int) > 0 by omega), if_pos (show ((!p == r) || (!q == s)) = true by
        by_cases c : p = r
        · simp [c, show ¬ q = s from fun h => h1 ⟨c, h⟩]
        · simp [c]), impl_nb p q hp 60 (by decide) k (by omega), Option.bind_some, e2, Option.bind_some, hd]
      have g1 := im_st1 hs (nbR p q 60) (by omega) hni (out ++ [⟨p, q⟩]) (n : Int) (nbR p q 60).length k 0 (n : Int) 0 0 (by omega) (by omega)
      have g2 := sp_st1 (p := p) (q := q) hs (allR 60) (by omega) (allR_is 60) (out ++ [⟨p, q⟩]) (allR 60).length k 0 (n : Int) p q (by omega) (by omega)
      rw [List.drop_zero] at g1 g2
      rw [show (allR 60).filter (crossing p q) = nbR p q 60 from rfl] at g2
      rw [show ((0 : Nat) : Int) = 0 from rfl] at g1 g2
      rw [g1, g2]
      obtain ⟨s1, s2⟩ := scan_ind r s (nbR p q 60) (n : Int) 0 0 p q
      rcases scan_mem r s (nbR p q 60) (n : Int) p q with c | ⟨c1, t, ht, c2⟩
      · rw [if_pos (by rw [s1, c]), if_pos (by rw [c]; simp)]
        exact ⟨_, rfl, rfl, by simp⟩
      · have c3 := s2 (by rw [s1]; exact c1)
        rw [c2] at c1 c3
        rw [c2, c3]
        have c1 : dS t.f0 t.f1 r s < (n : Int) := c1
        have ht2 := hni t ht
        obtain ⟨_, _, f3, _, _⟩ := dist_f ht2 hs k (by omega)
        have hlen : (out ++ [(⟨p, q⟩ : S25)]).length < 8796093022208 := by rw [List.length_append, List.length_singleton]; omega
        rw [if_neg (by dsimp only; omega), if_pos hlen, if_neg (by
          intro h
          rw [Bool.and_eq_true, beq_iff_eq, beq_iff_eq] at h
          dsimp only at h
          rw [h.1, h.2] at c1
          omega)]
        obtain ⟨m, hm⟩ : ∃ m : Nat, dS t.f0 t.f1 r s = (m : Int) := ⟨_, (Int.toNat_of_nonneg f3).symm⟩
        dsimp only
        rw [hm]
        have hmn : m < n := by omega
        obtain ⟨res, r1, _, r3⟩ := ih m hmn t.f0 t.f1 (out ++ [⟨p, q⟩]) (k - (nbR p q 60).length - 1) ht2 hm (by rw [List.length_append, List.length_singleton]; omega) (by omega)
        obtain ⟨res2, _, r2, _⟩ := ih m hmn t.f0 t.f1 (out ++ [⟨p, q⟩]) (k - (allR 60).length - 1) ht2 hm (by rw [List.length_append, List.length_singleton]; omega) (by omega)
        have hu : ∀ j (r4 : List S25) d, spec_StepsBetween.l0 j (out ++ [⟨p, q⟩] ++ [⟨t.f0, t.f1⟩]) (allR 60) r s = some r4 → spec_StepsBetween.l0 (j + d) (out ++ [⟨p, q⟩] ++ [⟨t.f0, t.f1⟩]) (allR 60) r s = some r4 := by
          intro j r4 d h
          induction d with
          | zero => exact h
          | succ d ihd => exact (spec_StepsBetween.mono_l (j + d)).2.1 _ _ _ _ r4 ihd
        obtain ⟨res3, u1, u2, u3⟩ := ih m hmn t.f0 t.f1 (out ++ [⟨p, q⟩]) (22000 * m + 11000000 + 1) ht2 hm (by rw [List.length_append, List.length_singleton]; omega) (by omega)
        have hui : ∀ j (r4 : List S25) d, impl_StepsBetween.l0 j (out ++ [⟨p, q⟩] ++ [⟨t.f0, t.f1⟩]) (m : Int) r s t.f0 t.f1 = some r4 → impl_StepsBetween.l0 (j + d) (out ++ [⟨p, q⟩] ++ [⟨t.f0, t.f1⟩]) (m : Int) r s t.f0 t.f1 = some r4 := by
          intro j r4 d h
          induction d with
          | zero => exact h
          | succ d ihd => exact (impl_StepsBetween.mono_l (j + d)).2.1 _ _ _ _ _ _ r4 ihd
        have v1 := hui _ _ (k - (nbR p q 60).length - 1 - (22000 * m + 11000000 + 1)) u1
        have v2 := hu _ _ (k - (allR 60).length - 1 - (22000 * m + 11000000 + 1)) u2
        rw [show 22000 * m + 11000000 + 1 + (k - (nbR p q 60).length - 1 - (22000 * m + 11000000 + 1)) = k - (nbR p q 60).length - 1 by omega] at v1
        rw [show 22000 * m + 11000000 + 1 + (k - (allR 60).length - 1 - (22000 * m + 11000000 + 1)) = k - (allR 60).length - 1 by omega] at v2
        refine ⟨res3, v1, ?_, by rw [List.length_append, List.length_singleton] at u3; omega⟩
        rw [if_pos hlen]
        exact v2
/-- Numbers up to 20. -/
def smallS (p q : Int) : Bool := isS p q && decide (-20 ≤ p ∧ p ≤ 20) && decide (q ≤ 20)
theorem spec_small (p q : Int) (k : Nat) (hk : 1000 < k) : spec_l14Small.f k p q = some (smallS p q) := by
  unfold spec_l14Small.f smallS
  rw [spec_isS _ _ _ hk, Option.bind_some, l1In_eq, Option.bind_some]
  by_cases h : isS p q = true
  · by_cases h2 : -20 ≤ p ∧ p ≤ 20
    · rw [if_pos h, if_pos (decide_eq_true h2), h]; simp [h2]
    · rw [if_pos h, if_neg (by simpa using h2), h, decide_eq_false h2]; rfl
  · rw [if_neg h, Bool.eq_false_iff.2 h]; rfl
theorem impl_small (p q : Int) (k : Nat) (hk : 1000 < k) : impl_isNear.f k p q = some (smallS p q) := by
  unfold impl_isNear.f smallS
  rw [impl_isS _ _ _ hk, Option.bind_some]
  by_cases h : isS p q = true
  · obtain ⟨h3, _⟩ := isS_true h
    rw [if_pos h, size_eq (by omega) (by omega), Option.bind_some, h]
    by_cases h2 : -20 ≤ p ∧ p ≤ 20
    · rw [if_pos (by omega)]; simp [h2]
    · rw [if_neg (by omega), decide_eq_false h2]; rfl
  · rw [if_neg h, Bool.eq_false_iff.2 h]; rfl
theorem steps_both (p q r s : Int) (k : Nat) (hk : 100000000000 ≤ k) : ∃ res, impl_StepsBetween.f k p q r s = some res ∧ spec_StepsBetween.f k p q r s = some res ∧ res.length ≤ 3000000 := by
  unfold impl_StepsBetween.f spec_StepsBetween.f
  rw [impl_small _ _ _ (by omega), spec_small _ _ _ (by omega), impl_small _ _ _ (by omega), spec_small _ _ _ (by omega)]
  simp only [Option.bind_some]
  obtain ⟨k, rfl⟩ : ∃ m, k = m + 1 := ⟨k - 1, by omega⟩
  by_cases h1 : smallS p q = true
  · by_cases h2 : smallS r s = true
    · rw [if_pos h1, if_pos h1, h2]
      simp only [impl_StepsBetween.j0, spec_StepsBetween.j0]
      unfold smallS at h1 h2
      simp only [Bool.and_eq_true] at h1 h2
      obtain ⟨e1, _, e3, e4, _⟩ := dist_f h1.1.1 h2.1.1 k (by omega)
      obtain ⟨n, hn⟩ : ∃ n : Nat, dS p q r s = (n : Int) := ⟨_, (Int.toNat_of_nonneg e3).symm⟩
      rw [e1, Option.bind_some, spec_all 60 (by decide) k (by omega), Option.bind_some, hn, if_neg (by decide), if_neg (by decide)]
      obtain ⟨res, r1, r2, r3⟩ := way_both h2.1.1 n p q [] k h1.1.1 hn (by rw [List.length_nil]; omega) (by omega)
      exact ⟨res, r1, r2, by rw [List.length_nil] at r3; omega⟩
    · rw [if_pos h1, if_pos h1, Bool.eq_false_iff.2 h2]
      exact ⟨[], rfl, rfl, by decide⟩
  · rw [if_neg h1, if_neg h1]
    exact ⟨[], rfl, rfl, by decide⟩
end Go.Proofs.Ytkblceinidiidaa.L

namespace Go.Proofs.Ytkblceinidiidaa.L
open Go.RowKit Go.Proofs.Ytkblceinidiidaa.P Go.Proofs.Ytkblceinidiidaa.Help Go.Proofs.YtkblceinidiidaaW.PrintWords
set_option linter.unusedVariables false
set_option linter.unusedSimpArgs false

theorem eqSlope_self (a b : Int) : laws_eqSlope.f a b a b = some true := by simp [laws_eqSlope.f]
theorem eqSlopeS_l0 (xs : List S25) (hx : xs.length ≤ 1000000000000) : ∀ (d k i : Nat), i + d = xs.length → d < k → laws_eqSlopeS.l0 k xs xs (i : Int) = some true := by
  intro d
  induction d with
  | zero =>
    intro k i hi hk
    obtain ⟨k, rfl⟩ : ∃ m, k = m + 1 := ⟨k - 1, by omega⟩
    simp only [laws_eqSlopeS.l0]
    rw [if_neg (by omega)]
  | succ d ih =>
    intro k i hi hk
    obtain ⟨k, rfl⟩ : ∃ m, k = m + 1 := ⟨k - 1, by omega⟩
    simp only [laws_eqSlopeS.l0]
    rw [if_pos (by omega), if_pos (by omega), if_pos (by omega), eqSlope_self, Option.bind_some, if_pos rfl, w_id (by omega) (by omega), show ((i : Int) + 1) = ((i + 1 : Nat) : Int) by omega, ih k (i + 1) (by omega) (by omega)]
theorem eqSlopeS_self (xs : List S25) (hx : xs.length ≤ 1000000000000) (k : Nat) (hk : xs.length < k) : laws_eqSlopeS.f k xs xs = some true := by
  unfold laws_eqSlopeS.f
  rw [if_pos rfl]
  exact eqSlopeS_l0 xs hx xs.length k 0 (by omega) hk
/-- The marks of n slopes from a number on. -/
def marks (n : Nat) (j : Int) : List S25 := (List.range n).map fun (t : Nat) => ⟨j + 2 * t, j + 2 * t + 1⟩
theorem marks_len (n : Nat) (j : Int) : (marks n j).length = n := by simp [marks]
theorem marks_succ (n : Nat) (j : Int) : marks (n + 1) j = ⟨j, j + 1⟩ :: marks n (j + 2) := by
  unfold marks
  rw [List.range_succ_eq_map, List.map_cons, List.map_map]
  congr 1
  · simp
  · apply List.map_congr_left
    intro t _
    simp only [Function.comp]
    congr 1 <;> omega
theorem mark_l0 : ∀ (d k i : Nat) (xs : List S25) (j : Int), i + d = xs.length → d < k → xs.length ≤ 1000000000000 → 0 ≤ j → j + 2 * d ≤ 4000000000000000 →
    laws_markSlopeS.l0 k xs j (i : Int) = some (j + 2 * d, xs.take i ++ marks d j) := by
  intro d
  induction d with
  | zero =>
    intro k i xs j hi hk hx hj0 hj
    obtain ⟨k, rfl⟩ : ∃ m, k = m + 1 := ⟨k - 1, by omega⟩
    simp only [laws_markSlopeS.l0]
    rw [if_neg (by omega), List.take_of_length_le (by omega)]
    simp [marks]
  | succ d ih =>
    intro k i xs j hi hk hx hj0 hj
    obtain ⟨k, rfl⟩ : ∃ m, k = m + 1 := ⟨k - 1, by omega⟩
    simp only [laws_markSlopeS.l0]
    rw [if_pos (by omega), if_pos (by omega)]
    simp only [Option.bind_some, Int.toNat_natCast]
    have hset : (xs.set i (⟨j, (rd_T25 xs i).f1⟩ : S25)).set i (⟨(rd_T25 (xs.set i (⟨j, (rd_T25 xs i).f1⟩ : S25)) i).f0, j + 1⟩ : S25) = xs.set i ⟨j, j + 1⟩ := by
      rw [List.set_set]
      congr 1
      unfold rd_T25
      simp [List.getD_eq_getElem?_getD, List.getElem?_set, show i < xs.length by omega]
    rw [w_id (a := j + 1) (by omega) (by omega), hset, w_id (a := j + 1 + 1) (by omega) (by omega), w_id (a := (i : Int) + 1) (by omega) (by omega), show ((i : Int) + 1) = ((i + 1 : Nat) : Int) by omega]
    rw [ih k (i + 1) _ (j + 1 + 1) (by rw [List.length_set]; omega) (by omega) (by rw [List.length_set]; omega) (by omega) (by omega)]
    congr 1
    refine Prod.ext ?_ ?_
    · show j + 1 + 1 + 2 * (d : Int) = j + 2 * ((d + 1 : Nat) : Int)
      omega
    · show (xs.set i ⟨j, j + 1⟩).take (i + 1) ++ marks d (j + 1 + 1) = xs.take i ++ marks (d + 1) j
      rw [marks_succ, List.take_succ_eq_append_getElem (by rw [List.length_set]; omega), List.getElem_set_self, List.take_set_of_le (by omega), List.append_assoc]
      rw [show j + 1 + 1 = j + 2 by omega]
      rfl
theorem held_l0 : ∀ (d k : Nat) (ys : List S25) (j : Int), d < k → ys.length + d ≤ 1000000000000 → 0 ≤ j → j + 2 * d ≤ 4000000000000000 →
    laws_heldSlopeS.l0 k (ys ++ marks d j) j (ys.length : Int) = some (j + 2 * d) := by
  intro d
  induction d with
  | zero =>
    intro k ys j hk hx hj0 hj
    obtain ⟨k, rfl⟩ : ∃ m, k = m + 1 := ⟨k - 1, by omega⟩
    simp only [laws_heldSlopeS.l0]
    rw [if_neg (by simp [marks])]
    simp
  | succ d ih =>
    intro k ys j hk hx hj0 hj
    obtain ⟨k, rfl⟩ : ∃ m, k = m + 1 := ⟨k - 1, by omega⟩
    have hr : rd_T25 (ys ++ marks (d + 1) j) (ys.length : Int) = ⟨j, j + 1⟩ := by
      unfold rd_T25
      rw [marks_succ]
      simp [List.getD_eq_getElem?_getD]
    have hl : ((ys ++ marks (d + 1) j).length : Int) = ys.length + d + 1 := by
      rw [List.length_append, marks_len]; omega
    simp only [laws_heldSlopeS.l0]
    rw [hr, hl, if_pos (by omega), if_pos (by omega)]
    simp only
    rw [w_id (a := j + 1) (by omega) (by omega)]
    simp only [if_true]
    rw [w_id (a := j + 1 + 1) (by omega) (by omega), w_id (a := (ys.length : Int) + 1) (by omega) (by omega)]
    have h := ih k (ys ++ [⟨j, j + 1⟩]) (j + 2) (by omega) (by simp; omega) (by omega) (by omega)
    rw [marks_succ, show j + 1 + 1 = j + 2 by omega]
    rw [List.append_assoc, List.length_append] at h
    simp only [List.singleton_append, List.length_singleton] at h
    rw [show ((ys.length : Int) + 1) = ((ys.length + 1 : Nat) : Int) by omega, h]
    congr 1
    omega
theorem mark_f (xs : List S25) (hx : xs.length ≤ 1000000000000) (k : Nat) (hk : xs.length < k) : laws_markSlopeS.f k xs 1 = some (1 + 2 * (xs.length : Int), marks xs.length 1) := by
  unfold laws_markSlopeS.f
  have h := mark_l0 xs.length k 0 xs 1 (by omega) hk hx (by omega) (by omega)
  rw [List.take_zero, List.nil_append] at h
  exact h
theorem held_f (n : Nat) (hx : n ≤ 1000000000000) (k : Nat) (hk : n < k) : laws_heldSlopeS.f k (marks n 1) 1 = some (1 + 2 * (n : Int)) := by
  unfold laws_heldSlopeS.f
  have h := held_l0 n k [] 1 hk (by simpa using hx) (by omega) (by omega)
  simpa using h
end Go.Proofs.Ytkblceinidiidaa.L

namespace Go.Proofs.Ytkblceinidiidaa.Pure
open Go.RowKit Go.Proofs.Ytkblceinidiidaa.P Go.Proofs.Ytkblceinidiidaa.Help Go.Proofs.Ytkblceinidiidaa.L
theorem FnExactStepsBetween : ∀ (a0_0 a0_1 : Int) (a1_0 a1_1 : Int), I64 a0_0 → I64 a0_1 → I64 a1_0 → I64 a1_1 → ∃ k, laws_FnExactStepsBetween.f k a0_0 a0_1 a1_0 a1_1 = some true := by
  intro p q r s _ _ _ _
  refine ⟨100000000000, ?_⟩
  obtain ⟨res, e1, e2, hl⟩ := steps_both p q r s 100000000000 (by decide)
  unfold laws_FnExactStepsBetween.f laws_toSlope.f
  simp only [Option.bind_some]
  rw [e1, e2]
  simp only [Option.bind_some]
  rw [eqSlopeS_self _ (by omega) _ (by omega)]
  simp only [Option.bind_some, if_true]
  rw [mark_f _ (by omega) _ (by omega)]
  simp only [Option.bind_some]
  rw [held_f _ (by omega) _ (by omega)]
  simp only [Option.bind_some]
  rw [if_neg (by omega)]
  simp only [if_true]
  rw [if_neg (by omega)]
end Go.Proofs.Ytkblceinidiidaa.Pure
