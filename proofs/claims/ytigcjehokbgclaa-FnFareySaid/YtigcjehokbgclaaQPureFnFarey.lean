/- Distances of slopes are those of a graph, kept by matrices, and ways are as long; no condition. -/
import Derived.Test.YtigcjehokbgclaaQPx0
import Derived.Test.YtigcjehokbgclaaQHelp
import Derived.Test.YtigcjehokbgclaaQPx2
import Derived.Test.YtigcjehokbgclaaQPx7
import Derived.Test.YtigcjehokbgclaaQPx5
import Derived.Test.YtigcjehokbgclaaQPx9
import Derived.Test.YtigcjehokbgclaaQPx13
import Derived.Test.YtigcjehokbgclaaQPx14
import Derived.Test.YtigcjehokbgclaaQPx11
import Derived.Test.YtigcjehokbgclaaQPx12
import Derived.Test.YtigcjehokbgclaaQPx8
import Derived.Test.YtigcjehokbgclaaQPx20
import Derived.Test.YtigcjehokbgclaaQPx22
import Derived.Test.YtigcjehokbgclaaQPx19
import Derived.Test.YtigcjehokbgclaaQPx21
import Derived.Test.YtigcjehokbgclaaQPx15
import Derived.Test.YtigcjehokbgclaaQPx10
import Derived.Test.YtigcjehokbgclaaQPx16
import Derived.Test.YtigcjehokbgclaaQPx6
import Derived.Test.YtigcjehokbgclaaQPx17
import Derived.Test.YtigcjehokbgclaaQPx18
import Derived.Test.YtigcjehokbgclaaQPx23

namespace Go.Proofs.Ytigcjehokbgclaa.L
open Go.RowKit Go.Proofs.Ytigcjehokbgclaa.P Go.Proofs.Ytigcjehokbgclaa.Help Go.Proofs.YtigcjehokbgclaaW.PrintWords
set_option linter.unusedVariables false
set_option linter.unusedSimpArgs false

theorem w_id {a : Int} (h0 : -9223372036854775808 ≤ a) (h1 : a ≤ 9223372036854775807) : wrap64 a = a := by unfold wrap64; omega
theorem mulb {a b A B : Int} (h1 : -A ≤ a) (h2 : a ≤ A) (h3 : -B ≤ b) (h4 : b ≤ B) : -(A * B) ≤ a * b ∧ a * b ≤ A * B := by
 have hA : 0 ≤ A := by omega
 have hB : 0 ≤ B := by omega
 have h : (a * b).natAbs ≤ (A * B).natAbs := by
  rw [Int.natAbs_mul, Int.natAbs_mul]
  exact Nat.mul_le_mul (by omega) (by omega)
 have hp : 0 ≤ A * B := Int.mul_nonneg hA hB
 omega
theorem rd_nat (xs : List Int) (i : Nat) (h : i < xs.length) : rd xs (i : Int) = xs[i] := by
 unfold rd
 simp [List.getD_eq_getElem?_getD, List.getElem?_eq_getElem h]
end Go.Proofs.Ytigcjehokbgclaa.L

namespace Go.Proofs.Ytigcjehokbgclaa.L
open Go.RowKit Go.Proofs.Ytigcjehokbgclaa.P Go.Proofs.Ytigcjehokbgclaa.Help Go.Proofs.YtigcjehokbgclaaW.PrintWords
set_option linter.unusedVariables false
set_option linter.unusedSimpArgs false

theorem l1In_eq (a lo hi : Int) : spec_l1In.f a lo hi = some (decide (lo ≤ a ∧ a ≤ hi)) := by
 unfold spec_l1In.f
 by_cases h : lo ≤ a <;> simp [h]
theorem within_eq (a lo hi : Int) : impl_within.f a lo hi = some (decide (lo ≤ a ∧ a ≤ hi)) := by
 unfold impl_within.f
 by_cases h : lo ≤ a <;> simp [h]
end Go.Proofs.Ytigcjehokbgclaa.L

namespace Go.Proofs.Ytigcjehokbgclaa.L
open Go.RowKit Go.Proofs.Ytigcjehokbgclaa.P Go.Proofs.Ytigcjehokbgclaa.Help Go.Proofs.YtigcjehokbgclaaW.PrintWords
set_option linter.unusedVariables false
set_option linter.unusedSimpArgs false

theorem l3Abs_eq {a : Int} (h0 : -9223372036854775807 ≤ a) (h1 : a ≤ 9223372036854775807) : spec_l3Abs.f a = some (a.natAbs : Int) := by
 unfold spec_l3Abs.f spec_l1Max.f
 rw [w_id (by omega) (by omega)]
 by_cases h : a > -a
 ·rw [if_pos h]; simp only [Option.bind_some]; congr 1; omega
 ·rw [if_neg h]; simp only [Option.bind_some]; congr 1; omega
theorem size_eq {a : Int} (h0 : -9223372036854775807 ≤ a) (h1 : a ≤ 9223372036854775807) : impl_size.f a = some (a.natAbs : Int) := by
 unfold impl_size.f
 rw [w_id (by omega) (by omega)]
 congr 1
 unfold mx
 split <;> omega
end Go.Proofs.Ytigcjehokbgclaa.L

namespace Go.Proofs.Ytigcjehokbgclaa.L
open Go.RowKit Go.Proofs.Ytigcjehokbgclaa.P Go.Proofs.Ytigcjehokbgclaa.Help Go.Proofs.YtigcjehokbgclaaW.PrintWords
set_option linter.unusedVariables false
set_option linter.unusedSimpArgs false

theorem gcd_step (a b : Int) (hb : b ≠ 0) : Int.gcd b (a.tmod b) = Int.gcd a b := by
 show Nat.gcd b.natAbs (a.tmod b).natAbs = Nat.gcd a.natAbs b.natAbs
 rw [Int.natAbs_tmod, Nat.gcd_comm a.natAbs b.natAbs, Nat.gcd_comm b.natAbs (a.natAbs % b.natAbs), ← Nat.gcd_rec]
theorem tmod_bd (a b : Int) (hb : b ≠ 0) : (a.tmod b).natAbs < b.natAbs := by
 rw [Int.natAbs_tmod]
 exact Nat.mod_lt _ (by omega)
theorem spec_gcd_l0 : ∀ (n k : Nat) (a b : Int), b.natAbs ≤ n → n < k → a.natAbs ≤ 9000000000000000000 → b.natAbs ≤ 9000000000000000000 → spec_l11Gcd.l0 k a b = some (Int.gcd a b : Int) := by
 intro n
 induction n with
 | zero =>
  intro k a b hb hk ha hB
  obtain ⟨k, rfl⟩ : ∃ m, k = m + 1 := ⟨k - 1, by omega⟩
  obtain rfl : b = 0 := by omega
  simp only [spec_l11Gcd.l0]
  rw [if_pos trivial, l3Abs_eq (by omega) (by omega), Option.bind_some, Int.gcd_zero_right]
 | succ n ih =>
  intro k a b hb hk ha hB
  obtain ⟨k, rfl⟩ : ∃ m, k = m + 1 := ⟨k - 1, by omega⟩
  simp only [spec_l11Gcd.l0]
  by_cases h : b = 0
  ·subst h
   rw [if_pos rfl, l3Abs_eq (by omega) (by omega), Option.bind_some, Int.gcd_zero_right]
  ·have := tmod_bd a b h
   rw [if_neg h, ih k b (a.tmod b) (by omega) (by omega) (by omega) (by omega), gcd_step a b h]
theorem impl_gcd_l0 : ∀ (n k : Nat) (a b : Int), b.natAbs ≤ n → n < k → 0 ≤ a → 0 ≤ b → impl_gcd.l0 k a b = some (Int.gcd a b : Int) := by
 intro n
 induction n with
 | zero =>
  intro k a b hb hk ha hB
  obtain ⟨k, rfl⟩ : ∃ m, k = m + 1 := ⟨k - 1, by omega⟩
  obtain rfl : b = 0 := by omega
  simp only [impl_gcd.l0]
  rw [if_pos trivial, Int.gcd_zero_right]
  congr 1
  omega
 | succ n ih =>
  intro k a b hb hk ha hB
  obtain ⟨k, rfl⟩ : ∃ m, k = m + 1 := ⟨k - 1, by omega⟩
  simp only [impl_gcd.l0]
  by_cases h : b = 0
  ·subst h
   rw [if_pos rfl, Int.gcd_zero_right]
   congr 1
   omega
  ·have := tmod_bd a b h
   rw [if_neg h, ih k b (a.tmod b) (by omega) (by omega) hB (Int.tmod_nonneg _ ha), gcd_step a b h]
theorem spec_gcd (a b : Int) (k : Nat) (hk : b.natAbs < k) (ha : a.natAbs ≤ 9000000000000000000) (hb : b.natAbs ≤ 9000000000000000000) : spec_l11Gcd.f k a b = some (Int.gcd a b : Int) := by
 unfold spec_l11Gcd.f
 exact spec_gcd_l0 _ k a b (Nat.le_refl _) hk ha hb
theorem impl_gcd_eq (a b : Int) (k : Nat) (hk : b.natAbs < k) (ha : a.natAbs ≤ 9000000000000000000) (hb : b.natAbs ≤ 9000000000000000000) : impl_gcd.f k a b = some (Int.gcd a b : Int) := by
 unfold impl_gcd.f
 rw [size_eq (by omega) (by omega), size_eq (by omega) (by omega), Option.bind_some, Option.bind_some, impl_gcd_l0 _ k _ _ (Nat.le_refl _) (by omega) (by omega) (by omega)]
 rfl
end Go.Proofs.Ytigcjehokbgclaa.L


namespace Go.Proofs.Ytigcjehokbgclaa.L
open Go.RowKit Go.Proofs.Ytigcjehokbgclaa.P Go.Proofs.Ytigcjehokbgclaa.Help Go.Proofs.YtigcjehokbgclaaW.PrintWords
set_option linter.unusedVariables false
set_option linter.unusedSimpArgs false

/-- A slope. -/
def isS (p q : Int) : Bool := decide ((-1000 ≤ p ∧ p ≤ 1000) ∧ (0 ≤ q ∧ q ≤ 1000) ∧ Int.gcd p q = 1 ∧ (q = 0 → p = 1))
theorem isS_true {p q : Int} (h : isS p q = true) : (-1000 ≤ p ∧ p ≤ 1000) ∧ (0 ≤ q ∧ q ≤ 1000) ∧ Int.gcd p q = 1 ∧ (q = 0 → p = 1) := of_decide_eq_true h
end Go.Proofs.Ytigcjehokbgclaa.L

namespace Go.Proofs.Ytigcjehokbgclaa.L
open Go.RowKit Go.Proofs.Ytigcjehokbgclaa.P Go.Proofs.Ytigcjehokbgclaa.Help Go.Proofs.YtigcjehokbgclaaW.PrintWords
set_option linter.unusedVariables false
set_option linter.unusedSimpArgs false

theorem spec_isS (p q : Int) (k : Nat) (hk : 1000 < k) : spec_IsSlope.f k p q = some (isS p q) := by
 unfold spec_IsSlope.f isS
 rw [l1In_eq, l1In_eq, Option.bind_some, Option.bind_some]
 by_cases h1 : -1000 ≤ p ∧ p ≤ 1000
 ·by_cases h2 : 0 ≤ q ∧ q ≤ 1000
  ·rw [if_pos (decide_eq_true h1), if_pos (decide_eq_true h2), spec_gcd p q k (by omega) (by omega) (by omega), Option.bind_some]
   by_cases h3 : q = 0
   ·subst h3
    rw [if_pos rfl]
    by_cases h4 : p = 1
    ·subst h4; rw [if_pos rfl]; decide
    ·rw [if_neg h4]; simp [h4]
   ·rw [if_neg h3]
    congr 1
    rw [Bool.eq_iff_iff]
    simp [h1, h2, h3]
    omega
  ·rw [if_pos (decide_eq_true h1), if_neg (by simpa using h2)]
   congr 1
   symm
   rw [decide_eq_false_iff_not]
   exact fun h => h2 h.2.1
 ·rw [if_neg (by simpa using h1)]
  congr 1
  symm
  rw [decide_eq_false_iff_not]
  exact fun h => h1 h.1
theorem impl_isS (p q : Int) (k : Nat) (hk : 1000 < k) : impl_IsSlope.f k p q = some (isS p q) := by
 unfold impl_IsSlope.f isS
 rw [within_eq, within_eq, Option.bind_some, Option.bind_some]
 by_cases h1 : -1000 ≤ p ∧ p ≤ 1000
 ·by_cases h2 : 0 ≤ q ∧ q ≤ 1000
  ·rw [if_pos (decide_eq_true h1), if_pos (decide_eq_true h2), impl_gcd_eq p q k (by omega) (by omega) (by omega), Option.bind_some]
   by_cases h5 : Int.gcd p q = 1
   ·rw [if_pos (by omega)]
    by_cases h3 : q = 0
    ·rw [if_neg (by omega)]
     congr 1
     rw [Bool.eq_iff_iff]
     simp [h1, h2, h3]
     intro h4
     subst h4
     decide
    ·rw [if_pos (by omega)]
     congr 1
     symm
     rw [decide_eq_true_iff]
     exact ⟨h1, h2, h5, fun h => absurd h h3⟩
   ·rw [if_neg (by omega)]
    congr 1
    symm
    rw [decide_eq_false_iff_not]
    exact fun h => h5 h.2.2.1
  ·rw [if_pos (decide_eq_true h1), if_neg (by simpa using h2)]
   congr 1
   symm
   rw [decide_eq_false_iff_not]
   exact fun h => h2 h.2.1
 ·rw [if_neg (by simpa using h1)]
  congr 1
  symm
  rw [decide_eq_false_iff_not]
  exact fun h => h1 h.1
end Go.Proofs.Ytigcjehokbgclaa.L

namespace Go.Proofs.Ytigcjehokbgclaa.L
open Go.RowKit Go.Proofs.Ytigcjehokbgclaa.P Go.Proofs.Ytigcjehokbgclaa.Help Go.Proofs.YtigcjehokbgclaaW.PrintWords
set_option linter.unusedVariables false
set_option linter.unusedSimpArgs false

/-- How often two slopes cross. -/
def crossR (p q r s : Int) : Int := if isS p q = true ∧ isS r s = true then ((p * s - q * r).natAbs : Int) else -1
theorem cross_w {p q r s : Int} (hp : -1000 ≤ p ∧ p ≤ 1000) (hq : -1000 ≤ q ∧ q ≤ 1000) (hr : -1000 ≤ r ∧ r ≤ 1000) (hs : -1000 ≤ s ∧ s ≤ 1000) : wrap64 ((wrap64 (p * s)) - (wrap64 (q * r))) = p * s - q * r ∧ -2000000 ≤ p * s - q * r ∧ p * s - q * r ≤ 2000000 := by
 have h1 := mulb hp.1 hp.2 hs.1 hs.2
 have h2 := mulb hq.1 hq.2 hr.1 hr.2
 rw [w_id (a := p * s) (by omega) (by omega), w_id (a := q * r) (by omega) (by omega), w_id (by omega) (by omega)]
 omega
theorem spec_cross (p q r s : Int) (k : Nat) (hk : 1000 < k) : spec_CrossNumber.f k p q r s = some (crossR p q r s) := by
 unfold spec_CrossNumber.f crossR
 rw [spec_isS _ _ _ hk, spec_isS _ _ _ hk, Option.bind_some, Option.bind_some]
 by_cases h : isS p q = true
 ·rw [if_pos h]
  by_cases h2 : isS r s = true
  ·obtain ⟨hp, hq, _⟩ := isS_true h
   obtain ⟨hr, hs, _⟩ := isS_true h2
   obtain ⟨e, e1, e2⟩ := cross_w hp (by omega) hr (show -1000 ≤ s ∧ s ≤ 1000 by omega) (q := q)
   rw [if_pos h2, if_pos ⟨h, h2⟩, e, l3Abs_eq (by omega) (by omega)]
   rfl
  ·rw [if_neg h2, if_neg (fun h => h2 h.2)]
 ·rw [if_neg h, if_neg (fun h' => h h'.1)]
theorem impl_cross_eq {p q r s : Int} (hp : -1000 ≤ p ∧ p ≤ 1000) (hq : -1000 ≤ q ∧ q ≤ 1000) (hr : -1000 ≤ r ∧ r ≤ 1000) (hs : -1000 ≤ s ∧ s ≤ 1000) : impl_cross.f p q r s = some ((p * s - q * r).natAbs : Int) := by
 unfold impl_cross.f
 obtain ⟨e, e1, e2⟩ := cross_w hp hq hr hs
 rw [e, size_eq (by omega) (by omega)]
 rfl
theorem crossR_is {p q r s : Int} (h : crossR p q r s = 1) : isS p q = true ∧ isS r s = true := by
 unfold crossR at h
 split at h
 ·assumption
 ·omega
end Go.Proofs.Ytigcjehokbgclaa.L

namespace Go.Proofs.Ytigcjehokbgclaa.L
open Go.RowKit Go.Proofs.Ytigcjehokbgclaa.P Go.Proofs.Ytigcjehokbgclaa.Help Go.Proofs.YtigcjehokbgclaaW.PrintWords
set_option linter.unusedVariables false
set_option linter.unusedSimpArgs false

/-- The slopes with one Q, from a P on. -/
def rowS : Nat → Int → Int → List S25
 | 0, _, _ => []
 | n + 1, p, q => if isS p q = true then ⟨p, q⟩ :: rowS n (p + 1) q else rowS n (p + 1) q
theorem rowS_len : ∀ n p q, (rowS n p q).length ≤ n
 | 0, _, _ => by simp [rowS]
 | n + 1, p, q => by
  have := rowS_len n (p + 1) q
  rw [rowS]
  split
  ·rw [List.length_cons]; omega
  ·omega
def allS (most : Int) : Nat → Int → List S25
 | 0, _ => []
 | n + 1, q => rowS (2 * most + 1).toNat (-most) q ++ allS most n (q + 1)
theorem allS_len (most : Int) (h : 0 ≤ most ∧ most ≤ 100) : ∀ n q, (allS most n q).length ≤ 201 * n
 | 0, _ => by simp [allS]
 | n + 1, q => by
  have := allS_len most h n (q + 1)
  have := rowS_len (2 * most + 1).toNat (-most) q
  rw [allS, List.length_append]
  omega
theorem spec_all_l1 (most : Int) (hm : 0 ≤ most ∧ most ≤ 100) (q : Int) (hq : 0 ≤ q ∧ q ≤ 100) : ∀ (d k : Nat) (p : Int) (o : List S25), p + d = most + 1 → -most ≤ p → d + 1002 < k → o.length + d ≤ 1000000 → spec_l14All.l1 k most o q p = spec_l14All.l0 (k - d - 1) most (o ++ rowS d p q) (q + 1) := by
 intro d
 induction d with
 | zero =>
  intro k p o hp hp0 hk ho
  obtain ⟨k, rfl⟩ : ∃ m, k = m + 1 := ⟨k - 1, by omega⟩
  conv => lhs; unfold spec_l14All.l1
  rw [if_neg (by omega), w_id (by omega) (by omega)]
  simp [rowS]
 | succ d ih =>
  intro k p o hp hp0 hk ho
  obtain ⟨k, rfl⟩ : ∃ m, k = m + 1 := ⟨k - 1, by omega⟩
  conv => lhs; unfold spec_l14All.l1
  rw [if_pos (by omega), spec_isS _ _ k (by omega), Option.bind_some, w_id (by omega) (by omega), rowS, show k + 1 - (d + 1) - 1 = k - d - 1 by omega]
  by_cases h : isS p q = true
  ·rw [if_pos h, if_pos h, if_pos (by omega), ih k (p + 1) _ (by omega) (by omega) (by omega) (by simp; omega), List.append_assoc]
   rfl
  ·rw [if_neg h, if_neg h, ih k (p + 1) o (by omega) (by omega) (by omega) (by omega)]
theorem spec_all_l0 (most : Int) (hm : 0 ≤ most ∧ most ≤ 100) : ∀ (d k : Nat) (q : Int) (o : List S25), q + d = most + 1 → 0 ≤ q → 210 * d + 1300 < k → o.length + 201 * d ≤ 1000000 → spec_l14All.l0 k most o q = some (o ++ allS most d q) := by
 intro d
 induction d with
 | zero =>
  intro k q o hq hq0 hk ho
  obtain ⟨k, rfl⟩ : ∃ m, k = m + 1 := ⟨k - 1, by omega⟩
  conv => lhs; unfold spec_l14All.l0
  rw [if_neg (by omega)]
  simp [allS]
 | succ d ih =>
  intro k q o hq hq0 hk ho
  obtain ⟨k, rfl⟩ : ∃ m, k = m + 1 := ⟨k - 1, by omega⟩
  have hl := rowS_len (2 * most + 1).toNat (-most) q
  conv => lhs; unfold spec_l14All.l0
  rw [if_pos (by omega), w_id (by omega) (by omega), spec_all_l1 most hm q (by omega) (2 * most + 1).toNat k (-most) o (by omega) (by omega) (by omega) (by omega), ih _ (q + 1) _ (by omega) (by omega) (by omega) (by rw [List.length_append]; omega), allS, List.append_assoc]
def allR (most : Int) : List S25 := allS most (most + 1).toNat 0
theorem spec_all (most : Int) (hm : 0 ≤ most ∧ most ≤ 100) (k : Nat) (hk : 25000 < k) : spec_l14All.f k most = some (allR most) := by
 unfold spec_l14All.f allR
 have := spec_all_l0 most hm (most + 1).toNat k 0 [] (by omega) (by omega) (by omega) (by simp; omega)
 rw [List.nil_append] at this
 exact this
theorem allR_len (most : Int) (hm : 0 ≤ most ∧ most ≤ 100) : (allR most).length ≤ 21000 := by
 have := allS_len most hm (most + 1).toNat 0
 unfold allR
 omega
end Go.Proofs.Ytigcjehokbgclaa.L

namespace Go.Proofs.Ytigcjehokbgclaa.L
open Go.RowKit Go.Proofs.Ytigcjehokbgclaa.P Go.Proofs.Ytigcjehokbgclaa.Help Go.Proofs.YtigcjehokbgclaaW.PrintWords
set_option linter.unusedVariables false
set_option linter.unusedSimpArgs false

def crossing (p q : Int) (t : S25) : Bool := decide (crossR p q t.f0 t.f1 = 1)
theorem rdT_nat (xs : List S25) (i : Nat) (h : i < xs.length) : rd_T25 xs (i : Int) = xs[i] := by
 unfold rd_T25
 simp [List.getD_eq_getElem?_getD, List.getElem?_eq_getElem h]
theorem cross_sym {p q r s : Int} (h : isS p q = true) (h2 : isS r s = true) : ((r * q - s * p).natAbs : Int) = crossR p q r s := by
 unfold crossR
 rw [if_pos ⟨h, h2⟩, show r * q - s * p = -(p * s - q * r) by grind, Int.natAbs_neg]
theorem impl_nb_l1 (p q : Int) (hs : isS p q = true) (most : Int) (hm : 0 ≤ most ∧ most ≤ 100) (y : Int) (hy : 0 ≤ y ∧ y ≤ 100) : ∀ (d k : Nat) (x : Int) (o : List S25), x + d = most + 1 → -most ≤ x → d + 1002 < k → o.length + d ≤ 1000000 → impl_neighbours.l1 k most o y x p q = impl_neighbours.l0 (k - d - 1) most (o ++ (rowS d x y).filter (crossing p q)) (y + 1) p q := by
 obtain ⟨b1, b2, _⟩ := isS_true hs
 intro d
 induction d with
 | zero =>
  intro k x o hx hx0 hk ho
  obtain ⟨k, rfl⟩ : ∃ m, k = m + 1 := ⟨k - 1, by omega⟩
  conv => lhs; unfold impl_neighbours.l1
  rw [if_neg (by omega), w_id (by omega) (by omega)]
  simp [rowS]
 | succ d ih =>
  intro k x o hx hx0 hk ho
  obtain ⟨k, rfl⟩ : ∃ m, k = m + 1 := ⟨k - 1, by omega⟩
  conv => lhs; unfold impl_neighbours.l1
  rw [if_pos (by omega), impl_isS _ _ k (by omega), Option.bind_some, impl_cross_eq (by omega) (by omega) b1 (by omega), Option.bind_some, w_id (by omega) (by omega), rowS, show k + 1 - (d + 1) - 1 = k - d - 1 by omega]
  by_cases h : isS x y = true
  ·rw [if_pos h, if_pos h, cross_sym hs h, List.filter_cons]
   by_cases h2 : crossR p q x y = 1
   ·rw [if_pos h2, if_pos (by omega), if_pos (show crossing p q ⟨x, y⟩ = true from decide_eq_true h2), ih k (x + 1) _ (by omega) (by omega) (by omega) (by simp; omega), List.append_assoc]
    rfl
   ·rw [if_neg h2, if_neg (show ¬ crossing p q ⟨x, y⟩ = true by unfold crossing; simpa using h2), ih k (x + 1) o (by omega) (by omega) (by omega) (by omega)]
  ·rw [if_neg h, if_neg h, ih k (x + 1) o (by omega) (by omega) (by omega) (by omega)]
theorem impl_nb_l0 (p q : Int) (hs : isS p q = true) (most : Int) (hm : 0 ≤ most ∧ most ≤ 100) : ∀ (d k : Nat) (y : Int) (o : List S25), y + d = most + 1 → 0 ≤ y → 210 * d + 1300 < k → o.length + 201 * d ≤ 1000000 → impl_neighbours.l0 k most o y p q = some (o ++ (allS most d y).filter (crossing p q)) := by
 intro d
 induction d with
 | zero =>
  intro k y o hy hy0 hk ho
  obtain ⟨k, rfl⟩ : ∃ m, k = m + 1 := ⟨k - 1, by omega⟩
  conv => lhs; unfold impl_neighbours.l0
  rw [if_neg (by omega)]
  simp [allS]
 | succ d ih =>
  intro k y o hy hy0 hk ho
  obtain ⟨k, rfl⟩ : ∃ m, k = m + 1 := ⟨k - 1, by omega⟩
  have hl := rowS_len (2 * most + 1).toNat (-most) y
  have hf := List.length_filter_le (crossing p q) (rowS (2 * most + 1).toNat (-most) y)
  conv => lhs; unfold impl_neighbours.l0
  rw [if_pos (by omega), w_id (by omega) (by omega), impl_nb_l1 p q hs most hm y (by omega) (2 * most + 1).toNat k (-most) o (by omega) (by omega) (by omega) (by omega), ih _ (y + 1) _ (by omega) (by omega) (by omega) (by rw [List.length_append]; omega), allS, List.append_assoc, List.filter_append]
def nbR (p q most : Int) : List S25 := (allR most).filter (crossing p q)
theorem impl_nb (p q : Int) (hs : isS p q = true) (most : Int) (hm : 0 ≤ most ∧ most ≤ 100) (k : Nat) (hk : 25000 < k) : impl_neighbours.f k p q most = some (nbR p q most) := by
 unfold impl_neighbours.f nbR allR
 have := impl_nb_l0 p q hs most hm (most + 1).toNat k 0 [] (by omega) (by omega) (by omega) (by simp; omega)
 rw [List.nil_append] at this
 exact this
end Go.Proofs.Ytigcjehokbgclaa.L

namespace Go.Proofs.Ytigcjehokbgclaa.L
open Go.RowKit Go.Proofs.Ytigcjehokbgclaa.P Go.Proofs.Ytigcjehokbgclaa.Help Go.Proofs.YtigcjehokbgclaaW.PrintWords Go.Proofs.YtigcjehokbgclaaW.PrintMore
set_option linter.unusedVariables false
set_option linter.unusedSimpArgs false
/-- The distance of 1 / 0 from p / q, r = p mod q. -/
inductive Far : Nat → Nat → Nat → Prop
 | small {q r : Nat} : q ≤ 1 → Far q r q
 | step {q r a b : Nat} : 2 ≤ q → 1 ≤ r → r < q → Far r (q % r) a → Far (q - r) (q % (q - r)) b → Far q r (1 + min a b)
theorem Far.uniq {q r n : Nat} (h : Far q r n) : ∀ {m : Nat}, Far q r m → n = m := by
 induction h with
 | small hq =>
  intro m hm
  cases hm with
  | small _ => rfl
  | step h2 _ _ _ _ => omega
 | step h2 h1 hlt ha hb iha ihb =>
  intro m hm
  cases hm with
  | small hq => omega
  | step _ _ _ ha' hb' => rw [iha ha', ihb hb']
theorem Far.le {q r n : Nat} (h : Far q r n) : n ≤ q := by
 induction h with
 | small _ => exact Nat.le_refl _
 | step h2 h1 hlt ha hb iha ihb =>
  have := Nat.min_le_left
  omega
theorem Far.ex : ∀ (N q r : Nat), q ≤ N → (2 ≤ q → r < q ∧ Nat.gcd q r = 1) → ∃ n, Far q r n
 | 0, q, r, hN, h => ⟨q, .small (by omega)⟩
 | N + 1, q, r, hN, h => by
  by_cases hq : q ≤ 1
  ·exact ⟨q, .small hq⟩
  ·obtain ⟨hlt, hg⟩ := h (by omega)
   have hr : 1 ≤ r := by
    rcases Nat.eq_zero_or_pos r with h0 | h0
    ·subst h0
     rw [Nat.gcd_zero_right] at hg
     omega
    ·exact h0
   obtain ⟨a, ha⟩ := Far.ex N r (q % r) (by omega) (fun h2 => ⟨Nat.mod_lt _ (by omega), by
    rw [Nat.gcd_comm r, ← Nat.gcd_rec, Nat.gcd_comm]; exact hg⟩)
   obtain ⟨b, hb⟩ := Far.ex N (q - r) (q % (q - r)) (by omega) (fun h2 => ⟨Nat.mod_lt _ (by omega), by
    rw [Nat.gcd_comm (q - r), ← Nat.gcd_rec]
    have e : Nat.gcd (q - r) q = Nat.gcd q r := by
     have e1 : q = (q - r) + r := by omega
     calc Nat.gcd (q - r) q = Nat.gcd (q - r) ((q - r) + r) := by rw [← e1]
      _ = Nat.gcd (q - r) r := by rw [Nat.gcd_self_add_right]
      _ = Nat.gcd r (q - r) := Nat.gcd_comm _ _
      _ = Nat.gcd r q := Nat.gcd_sub_self_right (by omega)
      _ = Nat.gcd q r := Nat.gcd_comm _ _
    rw [e]; exact hg⟩)
   exact ⟨_, .step (by omega) hr hlt ha hb⟩
theorem tdiv_e {p q : Int} (hq : 0 < q) : (if Int.tmod p q < 0 then Int.tdiv p q - 1 else Int.tdiv p q) = p / q ∧ (if Int.tmod p q < 0 then Int.tmod p q + q else Int.tmod p q) = p % q := by
 have e1 := Int.tmod_add_mul_tdiv p q
 have e2 := Int.emod_add_mul_ediv p q
 have b1 := Int.emod_nonneg p (show q ≠ 0 by omega)
 have b2 := Int.emod_lt_of_pos p hq
 have b3 := Int.tmod_lt_of_pos p hq
 have b4 : -q < Int.tmod p q := by
  have := Int.lt_tmod_of_pos p hq
  omega
 by_cases h : Int.tmod p q < 0
 ·rw [if_pos h, if_pos h]
  have hk : q * (Int.tdiv p q - 1 - p / q) = p % q - (Int.tmod p q + q) := by rw [Int.mul_sub, Int.mul_sub]; omega
  have h0 : Int.tdiv p q - 1 - p / q = 0 := by
   generalize Int.tdiv p q - 1 - p / q = z at hk
   rcases Int.lt_trichotomy z 0 with hz | hz | hz
   ·have : q * z ≤ q * (-1) := Int.mul_le_mul_of_nonneg_left (by omega) (by omega)
    omega
   ·exact hz
   ·have : q * 1 ≤ q * z := Int.mul_le_mul_of_nonneg_left (by omega) (by omega)
    omega
  rw [h0] at hk
  omega
 ·rw [if_neg h, if_neg h]
  have hk : q * (Int.tdiv p q - p / q) = p % q - Int.tmod p q := by rw [Int.mul_sub]; omega
  have h0 : Int.tdiv p q - p / q = 0 := by
   generalize Int.tdiv p q - p / q = z at hk
   rcases Int.lt_trichotomy z 0 with hz | hz | hz
   ·have : q * z ≤ q * (-1) := Int.mul_le_mul_of_nonneg_left (by omega) (by omega)
    omega
   ·exact hz
   ·have : q * 1 ≤ q * z := Int.mul_le_mul_of_nonneg_left (by omega) (by omega)
    omega
  rw [h0] at hk
  omega
theorem div_bd {p q B : Int} (hq : 0 < q) (h0 : -B ≤ p) (h1 : p ≤ B) (hB : 0 ≤ B) : -B - 1 ≤ p / q ∧ p / q ≤ B := by
 have e2 := Int.emod_add_mul_ediv p q
 have b1 := Int.emod_nonneg p (show q ≠ 0 by omega)
 have b2 := Int.emod_lt_of_pos p hq
 generalize p / q = z at *
 rcases Int.lt_or_le z 0 with hz | hz
 ·refine ⟨?_, by omega⟩
  rcases Int.lt_or_le z (-B - 1) with hl | hl
  ·exfalso
   have : q * (z + 1) ≤ 1 * (z + 1) := by
    have := Int.mul_le_mul_of_nonpos_right (show (1 : Int) ≤ q by omega) (show z + 1 ≤ 0 by omega)
    omega
   rw [Int.mul_add] at this
   omega
  ·exact hl
 ·have : 1 * z ≤ q * z := Int.mul_le_mul_of_nonneg_right (by omega) hz
  omega
theorem down_f {p q : Int} (hq : 0 < q) (h0 : -1000000000000 ≤ p) (h1 : p ≤ 1000000000000) : spec_l14Down.f p q = some (p / q) := by
 obtain ⟨e, _⟩ := tdiv_e (p := p) hq
 obtain ⟨d1, d2⟩ := div_bd hq h0 h1 (by omega)
 unfold spec_l14Down.f
 rw [if_neg (by omega)]
 by_cases c : Int.tmod p q < 0
 ·rw [if_pos c] at e
  rw [if_pos c, w_id (a := Int.tdiv p q) (by omega) (by omega), w_id (by omega) (by omega), e]
 ·rw [if_neg c] at e
  rw [if_neg c, w_id (by omega) (by omega), e]
theorem low_f {p q : Int} (hq : 0 < q) (hq2 : q ≤ 10000000) (h0 : -1000000000000 ≤ p) (h1 : p ≤ 1000000000000) : wrap64 (p - wrap64 (p / q * q)) = p % q := by
 have e2 := Int.emod_add_mul_ediv p q
 have b1 := Int.emod_nonneg p (show q ≠ 0 by omega)
 have b2 := Int.emod_lt_of_pos p hq
 rw [Int.mul_comm] at e2
 rw [w_id (a := p / q * q) (by omega) (by omega), w_id (by omega) (by omega)]
 omega
theorem neg_mod {q r : Nat} (hr : 0 < r) : (-(q : Int)) % (r : Int) = ((q % r : Nat) : Int) ∨ (-(q : Int)) % (r : Int) = (r : Int) - ((q % r : Nat) : Int) := by
 have e1 := Int.emod_add_mul_ediv (-(q : Int)) (r : Int)
 have b1 := Int.emod_nonneg (-(q : Int)) (show (r : Int) ≠ 0 by omega)
 have b2 := Int.emod_lt_of_pos (-(q : Int)) (show (0 : Int) < (r : Int) by omega)
 have e2 := Int.emod_add_mul_ediv (q : Int) (r : Int)
 have b3 := Int.emod_nonneg (q : Int) (show (r : Int) ≠ 0 by omega)
 have b4 := Int.emod_lt_of_pos (q : Int) (show (0 : Int) < (r : Int) by omega)
 rw [Int.natCast_emod]
 have hk : (r : Int) * ((-(q : Int)) / (r : Int) + (q : Int) / (r : Int)) = -((-(q : Int)) % (r : Int) + (q : Int) % (r : Int)) := by rw [Int.mul_add]; omega
 generalize (-(q : Int)) / (r : Int) + (q : Int) / (r : Int) = z at hk
 generalize (-(q : Int)) % (r : Int) = u at *
 generalize (q : Int) % (r : Int) = v at *
 rcases Int.lt_or_le z (-1) with hz | hz
 ·exfalso
  have : (r : Int) * z ≤ (r : Int) * (-2) := Int.mul_le_mul_of_nonneg_left (by omega) (by omega)
  omega
 ·rcases Int.lt_or_le z 0 with h2 | h2
  ·have : z = -1 := by omega
   subst this
   exact .inr (by omega)
  ·have : (r : Int) * 0 ≤ (r : Int) * z := Int.mul_le_mul_of_nonneg_left h2 (by omega)
   exact .inl (by omega)
theorem spec_far {q r n : Nat} (h : Far q r n) : ∀ (p : Int) (k : Nat), q ≤ 10000000 → -1000000000000 ≤ p → p ≤ 1000000000000 → (q ≤ 1 ∨ p % (q : Int) = (r : Int) ∨ p % (q : Int) = (q : Int) - (r : Int)) → q < k → spec_l14Far.f k p (q : Int) = some (n : Int) := by
 induction h with
 | small hq =>
  intro p k hm _ _ _ hk
  obtain ⟨k, rfl⟩ : ∃ m, k = m + 1 := ⟨k - 1, by omega⟩
  rw [spec_l14Far.f, if_pos (by omega)]
 | @step q r a b h2 h1 hlt ha hb iha ihb =>
  intro p k hm p0 p1 hp hk
  obtain ⟨k, rfl⟩ : ∃ m, k = m + 1 := ⟨k - 1, by omega⟩
  have la := ha.le
  have lb := hb.le
  have hL := low_f (p := p) (q := (q : Int)) (by omega) (by omega) p0 p1
  rw [spec_l14Far.f, if_neg (by omega), down_f (by omega) p0 p1, Option.bind_some, hL, w_id (a := -(q : Int)) (by omega) (by omega)]
  have en := neg_mod (q := q) (r := r) h1
  have em := neg_mod (q := q) (r := q - r) (by omega)
  rcases hp with hp | hp | hp
  ·omega
  ·rw [hp, iha (-(q : Int)) k (by omega) (by omega) (by omega) (.inr en) (by omega), Option.bind_some, w_id (by omega) (by omega), show (q : Int) - (r : Int) = ((q - r : Nat) : Int) by omega,
    ihb (q : Int) k (by omega) (by omega) (by omega) (.inr (.inl (Int.natCast_emod _ _).symm)) (by omega), Option.bind_some]
   unfold spec_l1Min.f
   by_cases c : (a : Int) < (b : Int)
   ·rw [if_pos c, Option.bind_some, w_id (by omega) (by omega), Nat.min_eq_left (by omega)]; simp
   ·rw [if_neg c, Option.bind_some, w_id (by omega) (by omega), Nat.min_eq_right (by omega)]; simp
  ·rw [hp, show (q : Int) - (r : Int) = ((q - r : Nat) : Int) by omega, ihb (-(q : Int)) k (by omega) (by omega) (by omega) (.inr em) (by omega), Option.bind_some, w_id (by omega) (by omega), show (q : Int) - ((q - r : Nat) : Int) = (r : Int) by omega,
    iha (q : Int) k (by omega) (by omega) (by omega) (.inr (.inl (Int.natCast_emod _ _).symm)) (by omega), Option.bind_some]
   unfold spec_l1Min.f
   by_cases c : (b : Int) < (a : Int)
   ·rw [if_pos c, Option.bind_some, w_id (by omega) (by omega), Nat.min_eq_right (by omega)]; simp
   ·rw [if_neg c, Option.bind_some, w_id (by omega) (by omega), Nat.min_eq_left (by omega)]; simp
end Go.Proofs.Ytigcjehokbgclaa.L

namespace Go.Proofs.Ytigcjehokbgclaa.L
open Go.RowKit Go.Proofs.Ytigcjehokbgclaa.P Go.Proofs.Ytigcjehokbgclaa.Help Go.Proofs.YtigcjehokbgclaaW.PrintWords Go.Proofs.YtigcjehokbgclaaW.PrintMore
set_option linter.unusedVariables false
set_option linter.unusedSimpArgs false
theorem pigeon : ∀ (N : Nat) (l : List Nat), l.Nodup → (∀ x ∈ l, x < N) → l.length ≤ N
 | 0, l, _, h => by
  cases l with
  | nil => simp
  | cons a l => exact absurd (h a (by simp)) (by omega)
 | N + 1, l, hd, h => by
  by_cases hN : N ∈ l
  ·have h1 := pigeon N (l.erase N) (hd.erase N) (fun x hx => by
    have h2 := (hd.mem_erase_iff).1 hx
    have h3 := h x h2.2
    have h4 := h2.1
    omega)
   rw [List.length_erase_of_mem hN] at h1
   omega
  ·have h1 := pigeon N l hd (fun x hx => by
    have h3 := h x hx
    have h4 : x ≠ N := fun e => hN (e ▸ hx)
    omega)
   omega
theorem wf_i {x : Int} (h0 : -9223372036854775808 ≤ x) (h1 : x ≤ 9223372036854775807) : (Lit.int .i64 x).wf = true := by
 have e1 : IntKind.i64.min = -9223372036854775808 := by decide
 have e2 : IntKind.i64.max = 9223372036854775807 := by decide
 simp only [Lit.wf, e1, e2, Bool.and_eq_true, decide_eq_true_eq]
 exact ⟨h0, h1⟩
/-- What the memory holds. -/
structure Kn (kn : List ((Int × Int) × Int)) : Prop where
 good : ∀ e ∈ kn, ∃ q r n : Nat, e = (((q : Int), (r : Int)), (n : Int)) ∧ Far q r n ∧ r < q ∧ q ≤ 4194303
 nodup : (kn.map Prod.fst).Nodup
theorem look_mem {kn : List ((Int × Int) × Int)} {key : Int × Int} {v : Int} (h : kn.lookup key = some v) : (key, v) ∈ kn := by
 induction kn with
 | nil => cases h
 | cons e t ih =>
  obtain ⟨k, u⟩ := e
  rw [List.lookup_cons] at h
  by_cases c : key == k
  ·rw [c] at h
   obtain rfl := Option.some.inj h
   rw [eq_of_beq c]
   exact List.mem_cons_self
  ·rw [Bool.eq_false_iff.mpr c] at h
   exact List.mem_cons_of_mem _ (ih h)
theorem look_none {kn : List ((Int × Int) × Int)} {key : Int × Int} (h : kn.lookup key = none) : key ∉ kn.map Prod.fst := by
 induction kn with
 | nil => simp
 | cons e t ih =>
  obtain ⟨k, u⟩ := e
  rw [List.lookup_cons] at h
  by_cases c : key == k
  ·rw [c] at h; cases h
  ·rw [Bool.eq_false_iff.mpr c] at h
   rw [List.map_cons]
   intro hm
   rcases List.mem_cons.1 hm with e1 | e1
   ·exact c (beq_iff_eq.2 e1)
   ·exact ih h e1
theorem Kn.short {kn : List ((Int × Int) × Int)} (h : Kn kn) : kn.length < maxLen := by
 have h1 := pigeon 35184372088832 ((kn.map Prod.fst).map fun k => k.1.toNat * 4194304 + k.2.toNat) (by
  refine List.pairwise_map.2 (List.Pairwise.imp_of_mem ?_ h.nodup)
  intro a b ha hb hab e
  obtain ⟨x, hx, rfl⟩ := List.mem_map.1 ha
  obtain ⟨y, hy, rfl⟩ := List.mem_map.1 hb
  obtain ⟨q, r, n, rfl, _, h2, h3⟩ := h.good x hx
  obtain ⟨q', r', n', rfl, _, h2', h3'⟩ := h.good y hy
  apply hab
  dsimp only at e ⊢
  rw [Int.toNat_natCast, Int.toNat_natCast, Int.toNat_natCast, Int.toNat_natCast] at e
  have e1 : q = q' := by omega
  have e2 : r = r' := by omega
  rw [e1, e2]) (by
  intro z hz
  obtain ⟨k, hk, rfl⟩ := List.mem_map.1 hz
  obtain ⟨x, hx, rfl⟩ := List.mem_map.1 hk
  obtain ⟨q, r, n, rfl, _, h2, h3⟩ := h.good x hx
  dsimp only
  rw [Int.toNat_natCast, Int.toNat_natCast]
  omega)
 rw [List.length_map, List.length_map] at h1
 unfold maxLen
 omega
theorem size_f {q0 : Int} {q : Nat} (h : q0.natAbs = q) (hq : q ≤ 4194303) : impl_size.f q0 = some (q : Int) := by
 unfold impl_size.f mx
 rw [w_id (by omega) (by omega)]
 split <;> (congr 1; omega)
theorem mod_f {p q : Int} (hq : 0 < q) (hq2 : q ≤ 4194303) : impl_mod.f p q = some (p % q) := by
 obtain ⟨_, e⟩ := tdiv_e (p := p) hq
 have b1 := Int.emod_nonneg p (show q ≠ 0 by omega)
 have b2 := Int.emod_lt_of_pos p hq
 unfold impl_mod.f
 rw [if_neg (by omega)]
 by_cases c : Int.tmod p q < 0
 ·rw [if_pos c] at e
  rw [if_pos c, e, w_id (by omega) (by omega)]
 ·rw [if_neg c] at e
  rw [if_neg c, e]
theorem impl_far {q r n : Nat} (h : Far q r n) : ∀ (p q0 : Int) (k : Nat) (kn : List ((Int × Int) × Int)), q0.natAbs = q → q ≤ 4194303 → (q ≤ 1 ∨ p % (q : Int) = (r : Int)) → Kn kn → q < k → ∃ kn', farey_distance.f k kn p q0 = some ((n : Int), kn') ∧ Kn kn' ∧ ∀ key ∈ kn'.map Prod.fst, key ∈ kn.map Prod.fst ∨ key.1 ≤ (q : Int) := by
 induction h with
 | @small q r hq =>
  intro p q0 k kn h0 hm _ hK hk
  obtain ⟨k, rfl⟩ : ∃ m, k = m + 1 := ⟨k - 1, by omega⟩
  refine ⟨kn, ?_, hK, fun key h => .inl h⟩
  rw [farey_distance.f, size_f h0 hm, Option.bind_some, if_pos (by omega)]
 | @step q r a b h2 h1 hlt ha hb iha ihb =>
  intro p q0 k kn h0 hm hp hK hk
  obtain ⟨k, rfl⟩ : ∃ m, k = m + 1 := ⟨k - 1, by omega⟩
  have la := ha.le
  have lb := hb.le
  have hp' : p % (q : Int) = (r : Int) := by omega
  have hF := Far.step h2 h1 hlt ha hb
  rw [farey_distance.f, size_f h0 hm, Option.bind_some, if_neg (by omega), mod_f (by omega) (by omega), Option.bind_some, hp', if_pos (wf_i (by omega) (by omega)), if_pos (wf_i (by omega) (by omega))]
  cases e : kn.lookup ((q : Int), (r : Int)) with
  | some v =>
   obtain ⟨q', r', n', e2, hF', _, _⟩ := hK.good _ (look_mem e)
   injection e2 with e3 e4
   injection e3 with e5 e6
   have e7 : q = q' := by omega
   have e8 : r = r' := by omega
   subst e7
   subst e8
   rw [e4, hF'.uniq hF]
   exact ⟨kn, rfl, hK, fun key h => .inl h⟩
  | none =>
   obtain ⟨kn1, f1, K1, M1⟩ := iha (q : Int) (r : Int) k kn (by omega) (by omega) (.inr (Int.natCast_emod _ _).symm) hK (by omega)
   obtain ⟨kn2, f2, K2, M2⟩ := ihb (q : Int) ((q : Int) - (r : Int)) k kn1 (by omega) (by omega) (.inr (by rw [show (((q - r : Nat) : Int)) = ((q - r : Nat) : Int) from rfl, ← Int.natCast_emod])) K1 (by omega)
   have hs := K2.short
   have hmn : wrap64 (1 + mn (a : Int) (b : Int)) = ((1 + min a b : Nat) : Int) := by
    unfold mn
    by_cases c : (b : Int) < (a : Int)
    ·rw [if_pos c, w_id (by omega) (by omega), Nat.min_eq_right (by omega)]; simp
    ·rw [if_neg c, w_id (by omega) (by omega), Nat.min_eq_left (by omega)]; simp
   dsimp only
   rw [f1, Option.bind_some, w_id (a := (q : Int) - (r : Int)) (by omega) (by omega)]
   dsimp only
   rw [f2, Option.bind_some]
   dsimp only
   rw [hmn, if_pos (wf_i (by omega) (by omega)), if_pos hs]
   refine ⟨_, rfl, ⟨fun x hx => ?_, ?_⟩, fun key hk2 => ?_⟩
   ·rcases List.mem_cons.1 hx with rfl | hx
    ·exact ⟨q, r, 1 + min a b, rfl, hF, hlt, hm⟩
    ·exact K2.good x hx
   ·rw [List.map_cons]
    refine List.nodup_cons.2 ⟨fun hc => ?_, K2.nodup⟩
    rcases M2 _ hc with hc | hc
    ·rcases M1 _ hc with hc | hc
     ·exact look_none e hc
     ·dsimp only at hc
      omega
    ·dsimp only at hc
     omega
   ·rw [List.map_cons] at hk2
    rcases List.mem_cons.1 hk2 with rfl | hk2
    ·exact .inr (Int.le_refl _)
    ·rcases M2 _ hk2 with hc | hc
     ·rcases M1 _ hc with hc | hc
      ·exact .inl hc
      ·exact .inr (by omega)
     ·exact .inr (by omega)
end Go.Proofs.Ytigcjehokbgclaa.L

namespace Go.Proofs.Ytigcjehokbgclaa.L
open Go.RowKit Go.Proofs.Ytigcjehokbgclaa.P Go.Proofs.Ytigcjehokbgclaa.Help Go.Proofs.YtigcjehokbgclaaW.PrintWords Go.Proofs.YtigcjehokbgclaaW.PrintMore
set_option linter.unusedVariables false
set_option linter.unusedSimpArgs false
theorem bit_f (b : Bool) : spec_l1Bit.f b = some (if b = true then 1 else 0) := by
 cases b <;> rfl
theorem wn {z : Int} (h : z.natAbs ≤ 9000000) : wrap64 z = z := w_id (by omega) (by omega)
theorem euc : ∀ (N : Nat) (a b : Int), b.natAbs ≤ N → a.natAbs ≤ 1000 → b.natAbs ≤ 1000 → Int.gcd a b = 1 → ∀ k, N < k → ∃ x y : Int, impl_euclid.f k a b = some (x, y) ∧ spec_l14Bezout.f k a b = some (x, y) ∧ a * x + b * y = 1 ∧ (b = 0 → x = a ∧ y = 0) ∧ (b ≠ 0 → x.natAbs ≤ b.natAbs) ∧ y.natAbs ≤ max 1 a.natAbs := by
 intro N
 induction N with
 | zero =>
  intro a b hb ha hb2 hg k hk
  obtain ⟨k, rfl⟩ : ∃ m, k = m + 1 := ⟨k - 1, by omega⟩
  have h0 : b = 0 := by omega
  subst h0
  have ha1 : a.natAbs = 1 := by rw [Int.gcd_zero_right] at hg; exact hg
  refine ⟨a, 0, ?_, ?_, ?_, fun _ => ⟨rfl, rfl⟩, fun h => absurd rfl h, by simp⟩
  ·rw [impl_euclid.f, if_pos rfl]
  ·rw [spec_l14Bezout.f, if_pos rfl, bit_f, bit_f, Option.bind_some, Option.bind_some]
   rcases (show a = 1 ∨ a = -1 by omega) with rfl | rfl
   ·show some (wrap64 (1 - 0), (0 : Int)) = some (1, 0)
    rw [w_id (by decide) (by decide)]
    rfl
   ·show some (wrap64 (0 - 1), (0 : Int)) = some (-1, 0)
    rw [w_id (by decide) (by decide)]
    rfl
  ·rcases (show a = 1 ∨ a = -1 by omega) with rfl | rfl
   ·rfl
   ·rfl
 | succ N ih =>
  intro a b hb ha hb2 hg k hk
  obtain ⟨k, rfl⟩ : ∃ m, k = m + 1 := ⟨k - 1, by omega⟩
  by_cases h0 : b = 0
  ·obtain ⟨x, y, h⟩ := ih a b (by omega) ha hb2 hg (k + 1) (by omega)
   exact ⟨x, y, h⟩
  ·have e1 := Int.tmod_add_mul_tdiv a b
   have hc : (Int.tmod a b).natAbs < b.natAbs := by rw [Int.natAbs_tmod]; exact Nat.mod_lt _ (by omega)
   have hab : (a - Int.tmod a b).natAbs ≤ 9000000 := by clear e1; omega
   have hcm : (Int.tmod a b).natAbs ≤ 9000000 := by clear e1; omega
   have hc2 : (Int.tmod a b).natAbs = a.natAbs % b.natAbs := Int.natAbs_tmod a b
   have hk2 : (Int.tdiv a b).natAbs = a.natAbs / b.natAbs := Int.natAbs_tdiv a b
   have hg2 : Int.gcd b (Int.tmod a b) = 1 := by
    unfold Int.gcd at hg ⊢
    rw [hc2, Nat.gcd_comm, ← Nat.gcd_rec, Nat.gcd_comm]
    exact hg
   have hdm := Nat.div_add_mod a.natAbs b.natAbs
   obtain ⟨x, y, f1, f2, f3, f4, f5, f6⟩ := ih b (Int.tmod a b) (by omega) hb2 (by omega) hg2 k (by omega)
   have hkb : (Int.tdiv a b).natAbs ≤ 1000 := by
    rw [hk2]
    exact Nat.le_trans (Nat.div_le_self _ _) ha
   have hky : (Int.tdiv a b * y).natAbs ≤ 1000000 := by
    rw [Int.natAbs_mul]
    have : y.natAbs ≤ 1000 := by omega
    exact Nat.le_trans (Nat.mul_le_mul hkb this) (by omega)
   have hkb2 : (Int.tdiv a b * b) = a - Int.tmod a b := by rw [Int.mul_comm]; omega
   have hx : x.natAbs ≤ 1000 := by
    by_cases c : Int.tmod a b = 0
    ·rw [(f4 c).1]; omega
    ·have := f5 c; omega
   have hy : (x - Int.tdiv a b * y).natAbs ≤ max 1 a.natAbs := by
    by_cases c : Int.tmod a b = 0
    ·obtain ⟨g1, g2⟩ := f4 c
     have hb1 : b.natAbs = 1 := by rw [c, Int.gcd_zero_right] at hg2; exact hg2
     rw [g1, g2, Int.mul_zero]
     omega
    ·have g1 := f5 c
     have g2 : (Int.tdiv a b * y).natAbs ≤ b.natAbs * (a.natAbs / b.natAbs) := by
      rw [Int.natAbs_mul, hk2, Nat.mul_comm]
      exact Nat.mul_le_mul_right _ (by omega)
     omega
   have hy9 : (x - Int.tdiv a b * y).natAbs ≤ 9000000 := Nat.le_trans hy (Nat.max_le.2 ⟨by decide, Nat.le_trans ha (by decide)⟩)
   have hyb : y.natAbs ≤ b.natAbs := by clear hdm hg2 hg e1 hkb2 hky hkb hk2 hc2 hab hcm f3; omega
   refine ⟨y, x - Int.tdiv a b * y, ?_, ?_, ?_, fun h => absurd h h0, fun _ => hyb, hy⟩
   ·rw [impl_euclid.f, if_neg h0, f1, Option.bind_some, wn (z := Int.tdiv a b) (Nat.le_trans hkb (by decide)), wn (z := Int.tdiv a b * y) (Nat.le_trans hky (by decide)), wn hy9]
   ·rw [spec_l14Bezout.f, if_neg h0, wn (z := Int.tdiv a b) (Nat.le_trans hkb (by decide)), hkb2, wn hab, Int.sub_sub_self, wn hcm, f2, Option.bind_some, wn (z := Int.tdiv a b * y) (Nat.le_trans hky (by decide)), wn hy9]
   ·have e2 : a * y = (Int.tmod a b + b * Int.tdiv a b) * y := by rw [e1]
    rw [e2, Int.add_mul, Int.mul_sub, Int.mul_assoc]
    clear hdm hg2 hg hkb2 hky hkb hk2 hc2 hab hcm hy hy9 hyb e2 f4 f5 f6
    omega
end Go.Proofs.Ytigcjehokbgclaa.L

namespace Go.Proofs.Ytigcjehokbgclaa.L
open Go.RowKit Go.Proofs.Ytigcjehokbgclaa.P Go.Proofs.Ytigcjehokbgclaa.Help Go.Proofs.YtigcjehokbgclaaW.PrintWords
set_option linter.unusedVariables false
set_option linter.unusedSimpArgs false
theorem isS_ok {p q : Int} (h : isS p q = true) : p.natAbs ≤ 1000 ∧ q.natAbs ≤ 1000 ∧ Int.gcd p q = 1 := by
 unfold isS at h
 have h := of_decide_eq_true h
 exact ⟨by omega, by omega, h.2.2.1⟩
theorem gcd_one {a b c d x y : Int} (h : a * x + b * y = 1) (hg : Int.gcd c d = 1) : Int.gcd (a * d - b * c) (x * c + y * d) = 1 := by
 have h1 : (Int.gcd (a * d - b * c) (x * c + y * d) : Int) ∣ (a * d - b * c) := Int.gcd_dvd_left ..
 have h2 : (Int.gcd (a * d - b * c) (x * c + y * d) : Int) ∣ (x * c + y * d) := Int.gcd_dvd_right ..
 have e1 : a * (x * c + y * d) - y * (a * d - b * c) = c * (a * x + b * y) := by
  simp only [Int.mul_add, Int.mul_sub, Int.mul_comm, Int.mul_left_comm]
  omega
 have e2 : b * (x * c + y * d) + x * (a * d - b * c) = d * (a * x + b * y) := by
  simp only [Int.mul_add, Int.mul_sub, Int.mul_comm, Int.mul_left_comm]
  omega
 rw [h, Int.mul_one] at e1 e2
 have hc := Int.dvd_sub (Int.dvd_trans h2 (Int.dvd_mul_left a (x * c + y * d))) (Int.dvd_trans h1 (Int.dvd_mul_left y (a * d - b * c)))
 have hd := Int.dvd_add (Int.dvd_trans h2 (Int.dvd_mul_left b (x * c + y * d))) (Int.dvd_trans h1 (Int.dvd_mul_left x (a * d - b * c)))
 rw [e1] at hc
 rw [e2] at hd
 have := Int.dvd_coe_gcd hc hd
 rw [hg] at this
 have h3 := Int.natAbs_dvd_natAbs.2 this
 simpa using h3
theorem neg_modI {p : Int} {r : Nat} (hr : 0 < r) : (-p) % (r : Int) = p % (r : Int) ∨ (-p) % (r : Int) = (r : Int) - p % (r : Int) := by
 have e1 := Int.emod_add_mul_ediv (-p) (r : Int)
 have b1 := Int.emod_nonneg (-p) (show (r : Int) ≠ 0 by omega)
 have b2 := Int.emod_lt_of_pos (-p) (show (0 : Int) < (r : Int) by omega)
 have e2 := Int.emod_add_mul_ediv p (r : Int)
 have b3 := Int.emod_nonneg p (show (r : Int) ≠ 0 by omega)
 have b4 := Int.emod_lt_of_pos p (show (0 : Int) < (r : Int) by omega)
 have hk : (r : Int) * ((-p) / (r : Int) + p / (r : Int)) = -((-p) % (r : Int) + p % (r : Int)) := by rw [Int.mul_add]; omega
 generalize (-p) / (r : Int) + p / (r : Int) = z at hk
 generalize (-p) % (r : Int) = u at *
 generalize p % (r : Int) = v at *
 rcases Int.lt_or_le z (-1) with hz | hz
 ·exfalso
  have : (r : Int) * z ≤ (r : Int) * (-2) := Int.mul_le_mul_of_nonneg_left (by omega) (by omega)
  omega
 ·rcases Int.lt_or_le z 0 with h2 | h2
  ·have : z = -1 := by omega
   subst this
   exact .inr (by omega)
  ·have : (r : Int) * 0 ≤ (r : Int) * z := Int.mul_le_mul_of_nonneg_left h2 (by omega)
   exact .inl (by omega)
theorem far_of {p q : Int} (hg : Int.gcd q p = 1) : ∃ n, Far q.natAbs (p % (q.natAbs : Int)).toNat n := by
 refine Far.ex q.natAbs q.natAbs _ (Nat.le_refl _) (fun h2 => ?_)
 have b3 := Int.emod_nonneg p (show (q.natAbs : Int) ≠ 0 by omega)
 have b4 := Int.emod_lt_of_pos p (show (0 : Int) < (q.natAbs : Int) by omega)
 refine ⟨by omega, ?_⟩
 have h3 : (Nat.gcd q.natAbs (p % (q.natAbs : Int)).toNat : Int) ∣ (q.natAbs : Int) := Int.natCast_dvd_natCast.2 (Nat.gcd_dvd_left ..)
 have h4 : (Nat.gcd q.natAbs (p % (q.natAbs : Int)).toNat : Int) ∣ (p % (q.natAbs : Int)) := by
  have := Int.natCast_dvd_natCast.2 (Nat.gcd_dvd_right q.natAbs (p % (q.natAbs : Int)).toNat)
  rwa [Int.toNat_of_nonneg b3] at this
 have h5 : (Nat.gcd q.natAbs (p % (q.natAbs : Int)).toNat : Int) ∣ p := by
  have := Int.dvd_add h4 (Int.dvd_trans h3 (Int.dvd_mul_right (q.natAbs : Int) (p / (q.natAbs : Int))))
  rwa [Int.emod_add_mul_ediv] at this
 have h6 := Int.dvd_coe_gcd (Int.dvd_natAbs.1 h3) h5
 rw [hg] at h6
 have h7 := Int.natAbs_dvd_natAbs.2 h6
 simpa using h7
theorem m6 {x y : Int} (h1 : x.natAbs ≤ 1000) (h2 : y.natAbs ≤ 1000) : (x * y).natAbs ≤ 1000000 := by
 rw [Int.natAbs_mul]
 exact Nat.le_trans (Nat.mul_le_mul h1 h2) (by decide)
theorem Far.pos {q r n : Nat} (h : Far q r n) : n = 0 ↔ q = 0 := by
 cases h with
 | small hq => exact Iff.rfl
 | step h2 _ _ _ _ => omega
theorem both2 {aP aQ bP bQ : Int} (h1 : isS aP aQ = true) (h2 : isS bP bQ = true) : ∃ n : Nat, spec_SlopeDistance.j0 10000001 false aP aQ bP bQ = some (n : Int) ∧ impl_between.f 10000001 aP aQ bP bQ = some (n : Int) ∧ n ≤ 2000000 ∧ (n = 0 ↔ aP * bQ = aQ * bP) ∧ ∃ x y : Int, aP * x + aQ * y = 1 ∧ Far (aP * bQ - aQ * bP).natAbs ((x * bP + y * bQ) % ((aP * bQ - aQ * bP).natAbs : Int)).toNat n := by
 obtain ⟨i1, i2, i3⟩ := isS_ok h1
 obtain ⟨j1, j2, j3⟩ := isS_ok h2
 obtain ⟨x, y, f1, f2, f3, f4, f5, f6⟩ := euc 1000 aP aQ i2 i1 i2 i3 10000000 (by decide)
 have f1' := impl_euclid.mono aP aQ 10000000 _ f1
 have hx : x.natAbs ≤ 1000 := by
  by_cases c : aQ = 0
  ·rw [(f4 c).1]; exact i1
  ·exact Nat.le_trans (f5 c) i2
 have hy : y.natAbs ≤ 1000 := Nat.le_trans f6 (Nat.max_le.2 ⟨by decide, i1⟩)
 have hg := gcd_one f3 j3
 have f7 := f3
 have p1 := m6 hx j1
 have p2 := m6 hy j2
 have p3 := m6 i1 j2
 have p4 := m6 i2 j1
 clear f1 f3 f4 f5 f6 h1 h2 i3 j3
 generalize hA : x * bP = A at *
 generalize hB : y * bQ = B at *
 generalize hC : aP * bQ = C at *
 generalize hD : aQ * bP = D at *
 obtain ⟨n, hn⟩ := far_of hg
 have hq : (C - D).natAbs ≤ 2000000 := by omega
 obtain ⟨kn', g1, _⟩ := impl_far hn (A + B) (C - D) 10000001 [] rfl (by omega) (by
  by_cases c : (C - D).natAbs ≤ 1
  ·exact .inl c
  ·exact .inr (Int.toNat_of_nonneg (Int.emod_nonneg _ (by omega))).symm) ⟨fun _ h => (by cases h), List.nodup_nil⟩ (by omega)
 refine ⟨n, ?_, ?_, Nat.le_trans hn.le hq, by rw [hn.pos]; omega, x, y, f7, by rw [hA, hB]; exact hn⟩
 all_goals clear f7
 ·simp only [spec_SlopeDistance.j0]
  rw [if_neg (by decide), f2, Option.bind_some]
  dsimp only
  rw [hA, hB, hC, hD, wn (z := A) (by omega), wn (z := B) (by omega), wn (z := C) (by omega), wn (z := D) (by omega), wn (z := C - D) (by omega), wn (z := A + B) (by omega)]
  by_cases c : C - D < 0
  ·rw [if_pos c, wn (z := -(A + B)) (by omega), wn (z := -(C - D)) (by omega)]
   have e := spec_far hn (-(A + B)) 10000000 (by omega) (by omega) (by omega) (by
    rcases neg_modI (p := A + B) (r := (C - D).natAbs) (by omega) with e | e
    ·exact .inr (.inl (e.trans (Int.toNat_of_nonneg (Int.emod_nonneg _ (by omega))).symm))
    ·exact .inr (.inr (e.trans (congrArg (fun z => ((C - D).natAbs : Int) - z) (Int.toNat_of_nonneg (Int.emod_nonneg _ (by omega))).symm)))) (by omega)
   rw [show (((C - D).natAbs : Nat) : Int) = -(C - D) by omega] at e
   rw [e]
   rfl
  ·rw [if_neg c]
   have e := spec_far hn (A + B) 10000000 (by omega) (by omega) (by omega) (by
    by_cases c : (C - D).natAbs ≤ 1
    ·exact .inl c
    ·exact .inr (.inl (Int.toNat_of_nonneg (Int.emod_nonneg _ (by omega))).symm)) (by omega)
   rw [show (((C - D).natAbs : Nat) : Int) = C - D by omega] at e
   rw [e]
   rfl
 ·unfold impl_between.f
  rw [f1', Option.bind_some]
  dsimp only
  rw [hA, hB, hC, hD, wn (z := A) (by omega), wn (z := B) (by omega), wn (z := C) (by omega), wn (z := D) (by omega), wn (z := C - D) (by omega), wn (z := A + B) (by omega), g1]
  rfl
theorem both {aP aQ bP bQ : Int} (h1 : isS aP aQ = true) (h2 : isS bP bQ = true) : ∃ n : Nat, spec_SlopeDistance.j0 10000001 false aP aQ bP bQ = some (n : Int) ∧ impl_between.f 10000001 aP aQ bP bQ = some (n : Int) ∧ n ≤ 2000000 ∧ (n = 0 ↔ aP * bQ = aQ * bP) := by
 obtain ⟨n, e1, e2, e3, e4, _⟩ := both2 h1 h2
 exact ⟨n, e1, e2, e3, e4⟩
/-- The number. -/
def dS (p q r s : Int) : Int := (impl_between.f 10000001 p q r s).getD 0
theorem more_i {p q r s v : Int} : ∀ (d k : Nat), k = 10000001 + d → impl_between.f 10000001 p q r s = some v → impl_between.f k p q r s = some v
 | 0, k, hk, h => by subst hk; exact h
 | d + 1, k, hk, h => by
  subst hk
  exact impl_between.mono p q r s (10000001 + d) v (more_i d _ rfl h)
theorem more_s {p q r s v : Int} : ∀ (d k : Nat), k = 10000002 + d → spec_SlopeDistance.f 10000002 p q r s = some v → spec_SlopeDistance.f k p q r s = some v
 | 0, k, hk, h => by subst hk; exact h
 | d + 1, k, hk, h => by
  subst hk
  exact spec_SlopeDistance.mono p q r s (10000002 + d) v (more_s d _ rfl h)
theorem dist_f {p q r s : Int} (h1 : isS p q = true) (h2 : isS r s = true) (k : Nat) (hk : 10000002 ≤ k) : impl_between.f k p q r s = some (dS p q r s) ∧ spec_SlopeDistance.f k p q r s = some (dS p q r s) ∧ 0 ≤ dS p q r s ∧ dS p q r s ≤ 2000000 ∧ (dS p q r s = 0 ↔ p * s = q * r) := by
 obtain ⟨n, e1, e2, e3, e4⟩ := both h1 h2
 have ed : dS p q r s = (n : Int) := by unfold dS; rw [e2]; rfl
 rw [ed]
 refine ⟨more_i (k - 10000001) k (by omega) e2, more_s (k - 10000002) k (by omega) ?_, by omega, by omega, by omega⟩
 have e : spec_SlopeDistance.f 10000001 p q r s = some (n : Int) := by
  unfold spec_SlopeDistance.f
  rw [spec_isS p q _ (by decide), Option.bind_some, if_pos h1, spec_isS r s _ (by decide), Option.bind_some, h2]
  exact e1
 exact spec_SlopeDistance.mono p q r s 10000001 _ e
theorem same_of {p q r s : Int} (h1 : isS p q = true) (h2 : isS r s = true) (h : p * s = q * r) : p = r ∧ q = s := by
 obtain ⟨a1, a2, a3, a4⟩ := isS_true h1
 obtain ⟨b1, b2, b3, b4⟩ := isS_true h2
 have d1 : q ∣ s := by
  have h5 := Int.natAbs_dvd_natAbs.2 (⟨r, h⟩ : q ∣ p * s)
  rw [Int.natAbs_mul] at h5
  exact Int.natAbs_dvd_natAbs.1 (Nat.Coprime.dvd_of_dvd_mul_left (show Nat.gcd q.natAbs p.natAbs = 1 from (Nat.gcd_comm _ _).trans a3) h5)
 have d2 : s ∣ q := by
  have h5 := Int.natAbs_dvd_natAbs.2 (⟨p, by rw [Int.mul_comm r q, ← h, Int.mul_comm]⟩ : s ∣ r * q)
  rw [Int.natAbs_mul] at h5
  exact Int.natAbs_dvd_natAbs.1 (Nat.Coprime.dvd_of_dvd_mul_left (show Nat.gcd s.natAbs r.natAbs = 1 from (Nat.gcd_comm _ _).trans b3) h5)
 have hqs : q = s := Int.dvd_antisymm a2.1 b2.1 d1 d2
 subst hqs
 refine ⟨?_, rfl⟩
 by_cases h0 : q = 0
 ·rw [a4 h0, b4 h0]
 ·rw [Int.mul_comm q r] at h
  exact Int.eq_of_mul_eq_mul_right h0 h
end Go.Proofs.Ytigcjehokbgclaa.L

namespace Go.Proofs.Ytigcjehokbgclaa.L
open Go.RowKit Go.Proofs.Ytigcjehokbgclaa.P Go.Proofs.Ytigcjehokbgclaa.Help Go.Proofs.YtigcjehokbgclaaW.PrintWords
set_option linter.unusedVariables false
set_option linter.unusedSimpArgs false
theorem rowS_is : ∀ (n : Nat) (p q : Int), ∀ t ∈ rowS n p q, isS t.f0 t.f1 = true
 | 0, _, _ => fun t h => by cases h
 | n + 1, p, q => fun t h => by
  rw [rowS] at h
  by_cases c : isS p q = true
  ·rw [if_pos c] at h
   rcases List.mem_cons.1 h with rfl | h
   ·exact c
   ·exact rowS_is n (p + 1) q t h
  ·rw [if_neg c] at h
   exact rowS_is n (p + 1) q t h
theorem allS_is (most : Int) : ∀ (n : Nat) (q : Int), ∀ t ∈ allS most n q, isS t.f0 t.f1 = true
 | 0, _ => fun t h => by cases h
 | n + 1, q => fun t h => by
  rw [allS] at h
  rcases List.mem_append.1 h with h | h
  ·exact rowS_is _ _ _ t h
  ·exact allS_is most n (q + 1) t h
theorem allR_is (most : Int) : ∀ t ∈ allR most, isS t.f0 t.f1 = true := allS_is most _ _
/-- The nearest, the first of them. -/
def scan (r s : Int) : List S25 → Int → Int → Int → Int × Int × Int
 | [], b, x, y => (b, x, y)
 | t :: l, b, x, y => if dS t.f0 t.f1 r s < b then scan r s l (dS t.f0 t.f1 r s) t.f0 t.f1 else scan r s l b x y
theorem scan_ind (r s : Int) : ∀ (l : List S25) (b x y x2 y2 : Int), (scan r s l b x y).1 = (scan r s l b x2 y2).1 ∧ ((scan r s l b x y).1 < b → scan r s l b x y = scan r s l b x2 y2)
 | [], b, x, y, x2, y2 => ⟨rfl, fun h => absurd h (Int.lt_irrefl _)⟩
 | t :: l, b, x, y, x2, y2 => by
  rw [scan, scan]
  by_cases c : dS t.f0 t.f1 r s < b
  ·rw [if_pos c, if_pos c]
   exact ⟨rfl, fun _ => rfl⟩
  ·rw [if_neg c, if_neg c]
   exact scan_ind r s l b x y x2 y2
theorem scan_mem (r s : Int) : ∀ (l : List S25) (b x y : Int), scan r s l b x y = (b, x, y) ∨ ((scan r s l b x y).1 < b ∧ ∃ t ∈ l, scan r s l b x y = (dS t.f0 t.f1 r s, t.f0, t.f1))
 | [], b, x, y => .inl rfl
 | t :: l, b, x, y => by
  rw [scan]
  by_cases c : dS t.f0 t.f1 r s < b
  ·rw [if_pos c]
   rcases scan_mem r s l (dS t.f0 t.f1 r s) t.f0 t.f1 with h | ⟨h1, u, hu, h2⟩
   ·exact .inr ⟨by rw [h]; exact c, t, List.mem_cons_self, h⟩
   ·exact .inr ⟨by omega, u, List.mem_cons_of_mem _ hu, h2⟩
  ·rw [if_neg c]
   rcases scan_mem r s l b x y with h | ⟨h1, u, hu, h2⟩
   ·exact .inl h
   ·exact .inr ⟨h1, u, List.mem_cons_of_mem _ hu, h2⟩
theorem im_st1 {r s : Int} (hs : isS r s = true) (xs : List S25) (hx : xs.length ≤ 30000) (his : ∀ t ∈ xs, isS t.f0 t.f1 = true) (out : List S25) (left : Int) : ∀ (d k i : Nat) (b x y : Int), i + d = xs.length → 10000002 + d < k →
  impl_StepsBetween.l1 k out left b xs (xs.length : Int) (i : Int) r s x y = (if (scan r s (xs.drop i) b x y).1 = left then some [] else (if out.length < 8796093022208 then impl_StepsBetween.l0 (k - d - 1) (out ++ [⟨(scan r s (xs.drop i) b x y).2.1, (scan r s (xs.drop i) b x y).2.2⟩]) (scan r s (xs.drop i) b x y).1 r s (scan r s (xs.drop i) b x y).2.1 (scan r s (xs.drop i) b x y).2.2 else none))
 | 0, k, i, b, x, y, hi, hk => by
  obtain ⟨k, rfl⟩ : ∃ m, k = m + 1 := ⟨k - 1, by omega⟩
  rw [List.drop_eq_nil_of_le (by omega), show k + 1 - 0 - 1 = k by omega]
  conv => lhs; simp only [impl_StepsBetween.l1]
  rw [if_neg (by omega)]
  rfl
 | d + 1, k, i, b, x, y, hi, hk => by
  obtain ⟨k, rfl⟩ : ∃ m, k = m + 1 := ⟨k - 1, by omega⟩
  have hlt : i < xs.length := by omega
  obtain ⟨e1, _⟩ := dist_f (his _ (List.getElem_mem hlt)) hs k (by omega)
  conv => lhs; simp only [impl_StepsBetween.l1]
  rw [if_pos (by omega), if_pos (by omega), if_pos (by omega), rdT_nat xs i hlt, e1, Option.bind_some, w_id (a := (i : Int) + 1) (by omega) (by omega), show ((i : Int) + 1) = ((i + 1 : Nat) : Int) by omega, List.drop_eq_getElem_cons hlt, scan, show k + 1 - (d + 1) - 1 = k - d - 1 by omega]
  by_cases c : dS xs[i].f0 xs[i].f1 r s < b
  ·rw [if_pos c, if_pos c]
   exact im_st1 hs xs hx his out left d k (i + 1) _ _ _ (by omega) (by omega)
  ·rw [if_neg c, if_neg c]
   exact im_st1 hs xs hx his out left d k (i + 1) _ _ _ (by omega) (by omega)
theorem sp_st1 {p q r s : Int} (hs : isS r s = true) (xs : List S25) (hx : xs.length ≤ 30000) (his : ∀ t ∈ xs, isS t.f0 t.f1 = true) (out : List S25) : ∀ (d k i : Nat) (b x y : Int), i + d = xs.length → 10000002 + d < k →
  spec_StepsBetween.l1 k out xs b (i : Int) r s p q x y = (if ((scan r s ((xs.drop i).filter (crossing p q)) b x y).2.1 == p && (scan r s ((xs.drop i).filter (crossing p q)) b x y).2.2 == q) = true then some [] else (if out.length < 8796093022208 then spec_StepsBetween.l0 (k - d - 1) (out ++ [⟨(scan r s ((xs.drop i).filter (crossing p q)) b x y).2.1, (scan r s ((xs.drop i).filter (crossing p q)) b x y).2.2⟩]) xs r s else none))
 | 0, k, i, b, x, y, hi, hk => by
  obtain ⟨k, rfl⟩ : ∃ m, k = m + 1 := ⟨k - 1, by omega⟩
  rw [List.drop_eq_nil_of_le (by omega), show k + 1 - 0 - 1 = k by omega]
  conv => lhs; simp only [spec_StepsBetween.l1]
  rw [if_neg (by omega)]
  rfl
 | d + 1, k, i, b, x, y, hi, hk => by
  obtain ⟨k, rfl⟩ : ∃ m, k = m + 1 := ⟨k - 1, by omega⟩
  have hlt : i < xs.length := by omega
  obtain ⟨_, e1, _⟩ := dist_f (his _ (List.getElem_mem hlt)) hs k (by omega)
  conv => lhs; simp only [spec_StepsBetween.l1]
  rw [if_pos (by omega), if_pos (by omega), rdT_nat xs i hlt, spec_cross _ _ _ _ k (by omega), Option.bind_some, w_id (a := (i : Int) + 1) (by omega) (by omega), show ((i : Int) + 1) = ((i + 1 : Nat) : Int) by omega, List.drop_eq_getElem_cons hlt, List.filter_cons, show k + 1 - (d + 1) - 1 = k - d - 1 by omega]
  by_cases h : crossR p q xs[i].f0 xs[i].f1 = 1
  ·rw [if_pos h, e1, Option.bind_some, Option.bind_some, if_pos (show crossing p q xs[i] = true from decide_eq_true h), scan]
   by_cases c : dS xs[i].f0 xs[i].f1 r s < b
   ·rw [if_pos c, if_pos c]
    exact sp_st1 hs xs hx his out d k (i + 1) _ _ _ (by omega) (by omega)
   ·rw [if_neg c, if_neg c]
    exact sp_st1 hs xs hx his out d k (i + 1) _ _ _ (by omega) (by omega)
  ·rw [if_neg h, if_neg (show ¬ crossing p q xs[i] = true by unfold crossing; simpa using h)]
   exact sp_st1 hs xs hx his out d k (i + 1) _ _ _ (by omega) (by omega)
end Go.Proofs.Ytigcjehokbgclaa.L


namespace Go.Proofs.Ytigcjehokbgclaa.L
open Go.RowKit Go.Proofs.Ytigcjehokbgclaa.P Go.Proofs.Ytigcjehokbgclaa.Help Go.Proofs.YtigcjehokbgclaaW.PrintWords
set_option linter.unusedVariables false
set_option linter.unusedSimpArgs false
theorem Far.flip {q r n : Nat} (hq : 2 ≤ q) (h : Far q r n) : Far q (q - r) n := by
 cases h with
 | small h1 => omega
 | step h2 h1 hlt ha hb =>
  rw [Nat.min_comm]
  refine .step hq (by omega) (by omega) hb ?_
  rw [show q - (q - r) = r by omega]
  exact ha
theorem Far.one {q r n : Nat} (h : Far q r n) (hn : n = 1) : q = 1 := by
 cases h with
 | small h1 => omega
 | step h2 h1 hlt ha hb =>
  exfalso
  have h3 := ha.pos
  have h4 := hb.pos
  rename_i a b
  rcases Nat.eq_zero_or_pos (min a b) with h5 | h5
  ·rcases Nat.le_total a b with h6 | h6
   ·rw [Nat.min_eq_left h6] at h5; omega
   ·rw [Nat.min_eq_right h6] at h5; omega
  ·omega
theorem Far.any {q r r' n : Nat} (hq : q ≤ 1) (h : Far q r n) : Far q r' n := by
 cases h with
 | small h1 => exact .small hq
 | step h2 _ _ _ _ => omega
theorem fl_lt {p q p' q' : Nat} (hq : 2 ≤ q) (hq' : 2 ≤ q') (h1 : 1 ≤ p % q) (h1' : 1 ≤ p' % q') (h : p' * q ≤ p * q' + 1) : ¬ p / q < p' / q' := by
 intro hk
 have e := Nat.div_add_mod p q
 have e' := Nat.div_add_mod p' q'
 have b := Nat.mod_lt p (show 0 < q by omega)
 have h2 : q' * q * (p / q + 1) ≤ q' * q * (p' / q') := Nat.mul_le_mul_left _ hk
 have h3 : p' * q = q' * q * (p' / q') + p' % q' * q := by
  conv => lhs; rw [← e']
  rw [Nat.add_mul]
  congr 1
  rw [Nat.mul_assoc, Nat.mul_comm (p' / q') q, ← Nat.mul_assoc]
 have h4 : p * q' = q' * q * (p / q) + p % q * q' := by
  conv => lhs; rw [← e]
  rw [Nat.add_mul]
  congr 1
  rw [Nat.mul_comm, ← Nat.mul_assoc]
 have h5 : 1 * q ≤ p' % q' * q := Nat.mul_le_mul_right _ h1'
 have h6 : p % q * q' ≤ (q - 1) * q' := Nat.mul_le_mul_right _ (by omega)
 have h7 : (q - 1) * q' = q' * q - q' := by rw [Nat.sub_mul, Nat.one_mul, Nat.mul_comm]
 have h8 : q' * 1 ≤ q' * q := Nat.mul_le_mul_left _ (by omega)
 rw [Nat.mul_add] at h2
 omega
theorem Far.lip : ∀ (N p q p' q' n n' : Nat), q + q' ≤ N → (p * q' = p' * q + 1 ∨ p' * q = p * q' + 1) → Far q (p % q) n → Far q' (p' % q') n' → n ≤ n' + 1
 | 0, p, q, p', q', n, n', hN, hd, h, h' => by
  have := h.le
  omega
 | N + 1, p, q, p', q', n, n', hN, hd, h, h' => by
  by_cases hq : q ≤ 1
  ·have := h.le
   omega
  ·have hq : 2 ≤ q := by omega
   by_cases hq' : q' ≤ 1
   ·have hr : p % q = 1 ∨ p % q = q - 1 := by
     rcases Nat.eq_zero_or_pos q' with h0 | h0
     ·exfalso
      rw [h0] at hd
      rcases hd with hd | hd
      ·omega
      ·have : q ∣ 1 := ⟨p', by rw [Nat.mul_comm]; omega⟩
       have := Nat.le_of_dvd (by decide) this
       omega
     ·have h1 : q' = 1 := by omega
      rw [h1, Nat.mul_one] at hd
      rcases hd with hd | hd
      ·left
       rw [hd, Nat.mul_comm, Nat.mul_add_mod]
       exact Nat.mod_eq_of_lt (by omega)
      ·right
       have e1 : p = q * (p' - 1) + (q - 1) := by
        have hp : 1 ≤ p' := by
         rcases Nat.eq_zero_or_pos p' with h3 | h3
         ·rw [h3] at hd; omega
         ·exact h3
        rw [Nat.mul_sub, Nat.mul_comm q p', Nat.mul_one]
        have : 1 * q ≤ p' * q := Nat.mul_le_mul_right _ hp
        omega
       rw [e1, Nat.mul_add_mod]
       exact Nat.mod_eq_of_lt (by omega)
    generalize hg : p % q = r at h hr
    cases h with
    | small h1 => omega
    | step h2 h1 hlt ha hb =>
     rename_i a b
     have h3 := ha.le
     have h4 := hb.le
     have h5 := h'.pos
     have h6 : 1 ≤ q' := by
      rcases Nat.eq_zero_or_pos q' with h0 | h0
      ·exfalso
       rw [h0] at hd
       rcases hd with hd | hd
       ·omega
       ·have : q ∣ 1 := ⟨p', by rw [Nat.mul_comm]; omega⟩
        have := Nat.le_of_dvd (by decide) this
        omega
      ·exact h0
     rcases Nat.le_total a b with h7 | h7
     ·rw [Nat.min_eq_left h7]; omega
     ·rw [Nat.min_eq_right h7]; omega
   ·have hq' : 2 ≤ q' := by omega
    generalize hg : p % q = r at h
    generalize hg' : p' % q' = r' at h'
    cases h with
    | small h1 => omega
    | step h2 h1 hlt ha hb =>
     cases h' with
     | small h1' => omega
     | step h2' h1' hlt' ha' hb' =>
      rename_i a b a' b'
      have k1 := fl_lt (p := p) (q := q) (p' := p') (q' := q') hq hq' (by omega) (by omega) (by omega)
      have k2 := fl_lt (p := p') (q := q') (p' := p) (q' := q) hq' hq (by omega) (by omega) (by omega)
      have e := Nat.div_add_mod p q
      have e' := Nat.div_add_mod p' q'
      rw [show p' / q' = p / q by omega] at e'
      generalize p / q = k at e e'
      rw [hg] at e
      rw [hg'] at e'
      have d2 : r * q' = r' * q + 1 ∨ r' * q = r * q' + 1 := by
       rw [← e, ← e'] at hd
       rw [Nat.add_mul, Nat.add_mul, show q' * k * q = q * k * q' by rw [Nat.mul_comm q' k, Nat.mul_assoc, Nat.mul_comm q' q, ← Nat.mul_assoc, Nat.mul_comm k q]] at hd
       omega
      have i1 := Far.lip N q r q' r' a a' (by omega) (by rw [Nat.mul_comm q r', Nat.mul_comm q' r]; omega) ha ha'
      have i2 := Far.lip N q (q - r) q' (q' - r') b b' (by omega) (by
       rw [Nat.mul_sub, Nat.mul_sub, Nat.mul_comm q r', Nat.mul_comm q' r, Nat.mul_comm q' q]
       have : r' * q ≤ q' * q := Nat.mul_le_mul_right _ (by omega)
       have : r * q' ≤ q * q' := Nat.mul_le_mul_right _ (by omega)
       rw [Nat.mul_comm q' q] at *
       omega) hb hb'
      rcases Nat.le_total a b with h7 | h7
      ·rw [Nat.min_eq_left h7]
       rcases Nat.le_total a' b' with h8 | h8
       ·rw [Nat.min_eq_left h8]; omega
       ·rw [Nat.min_eq_right h8]; omega
      ·rw [Nat.min_eq_right h7]
       rcases Nat.le_total a' b' with h8 | h8
       ·rw [Nat.min_eq_left h8]; omega
       ·rw [Nat.min_eq_right h8]; omega
/-- The distance of (1, 0) from a vector. -/
def FV (p q : Int) (n : Nat) : Prop := Far q.natAbs (p.natAbs % q.natAbs) n
theorem FV.uniq {p q : Int} {n m : Nat} (h : FV p q n) (h' : FV p q m) : n = m := Far.uniq h h'
theorem FV_modI {p : Int} {q n : Nat} : Far q (p % (q : Int)).toNat n ↔ Far q (p.natAbs % q) n := by
 by_cases hq : q ≤ 1
 ·exact ⟨fun h => h.any hq, fun h => h.any hq⟩
 ·rcases Int.le_total 0 p with h0 | h0
  ·obtain ⟨a, rfl⟩ := Int.eq_ofNat_of_zero_le h0
   rw [← Int.natCast_emod, Int.toNat_natCast, Int.natAbs_natCast]
  ·obtain ⟨a, ha⟩ := Int.eq_ofNat_of_zero_le (show 0 ≤ -p by omega)
   have hp : p = -(a : Int) := by omega
   subst hp
   rw [Int.natAbs_neg, Int.natAbs_natCast]
   have hlt := Nat.mod_lt a (show 0 < q by omega)
   rcases neg_modI (p := (a : Int)) (r := q) (by omega) with e | e
   ·rw [e, ← Int.natCast_emod, Int.toNat_natCast]
   ·rw [e, ← Int.natCast_emod, show ((q : Int) - ((a % q : Nat) : Int)).toNat = q - a % q by omega]
    refine ⟨fun h => ?_, fun h => h.flip (by omega)⟩
    have := h.flip (by omega)
    rwa [show q - (q - a % q) = a % q by omega] at this
theorem FV.shift {p q : Int} {n : Nat} (t : Int) (h : FV p q n) : FV (p + t * q) q n := by
 unfold FV at *
 rw [← FV_modI] at *
 rwa [show (p + t * q) % (q.natAbs : Int) = p % (q.natAbs : Int) by
  rcases Int.natAbs_eq q with e | e
  ·conv => lhs; rw [e]
   rw [Int.natAbs_natCast, Int.add_mul_emod_self_right, ← e]
  ·conv => lhs; rw [e]
   rw [Int.natAbs_neg, Int.natAbs_natCast, Int.mul_neg, ← Int.neg_mul, Int.add_mul_emod_self_right]]
theorem FV.congr {p q p' q' : Int} {n : Nat} (h : FV p q n) (hp : p'.natAbs = p.natAbs) (hq : q'.natAbs = q.natAbs) : FV p' q' n := by
 unfold FV at *
 rwa [hp, hq]
theorem FV.zero {p q : Int} : FV p q 0 ↔ q = 0 := by
 constructor
 ·intro h
  have := h.pos
  omega
 ·intro h
  subst h
  exact .small (by decide)
theorem FV.pos {p q : Int} {n : Nat} (h : FV p q n) : n = 0 ↔ q = 0 := by
 have := Far.pos h
 omega
theorem FV.one {p q : Int} {n : Nat} (h : FV p q n) : n = 1 ↔ q.natAbs = 1 := by
 constructor
 ·intro hn
  exact Far.one h hn
 ·intro hq
  exact (Far.uniq (show Far q.natAbs (p.natAbs % q.natAbs) n from h) (by rw [hq]; exact .small (by decide)))
theorem FV.ex {p q : Int} (hg : Int.gcd p q = 1) : ∃ n, FV p q n := by
 obtain ⟨n, h⟩ := far_of (p := p) (q := q) (by rw [Int.gcd_comm]; exact hg)
 exact ⟨n, FV_modI.1 h⟩
theorem det_gcd {p q u v : Int} (h : p * v - u * q = 1 ∨ p * v - u * q = -1) : Int.gcd p q = 1 ∧ Int.gcd u v = 1 := by
 have hd : ∀ g : Int, (g ∣ p ∧ g ∣ q) ∨ (g ∣ u ∧ g ∣ v) → g ∣ 1 := by
  intro g hg
  have h1 : g ∣ p * v - u * q := by
   rcases hg with ⟨a, b⟩ | ⟨a, b⟩
   ·exact Int.dvd_sub (Int.dvd_mul_of_dvd_left a) (Int.dvd_mul_of_dvd_right b)
   ·exact Int.dvd_sub (Int.dvd_mul_of_dvd_right b) (Int.dvd_mul_of_dvd_left a)
  rcases h with h | h
  ·rwa [h] at h1
  ·rw [h] at h1
   exact (Int.dvd_neg.1 h1)
 have one : ∀ n : Nat, (n : Int) ∣ 1 → n = 1 := by
  intro n hn
  have := Int.natAbs_dvd_natAbs.2 hn
  simpa using this
 exact ⟨one _ (hd _ (.inl ⟨Int.gcd_dvd_left .., Int.gcd_dvd_right ..⟩)), one _ (hd _ (.inr ⟨Int.gcd_dvd_left .., Int.gcd_dvd_right ..⟩))⟩
end Go.Proofs.Ytigcjehokbgclaa.L


namespace Go.Proofs.Ytigcjehokbgclaa.L
open Go.RowKit Go.Proofs.Ytigcjehokbgclaa.P Go.Proofs.Ytigcjehokbgclaa.Help Go.Proofs.YtigcjehokbgclaaW.PrintWords
set_option linter.unusedVariables false
set_option linter.unusedSimpArgs false
/-- Neighbours: they cross once. -/
def Nb (p q u v : Int) : Prop := p * v - u * q = 1 ∨ p * v - u * q = -1
theorem Nb.symm {p q u v : Int} (h : Nb p q u v) : Nb u v p q := by
 unfold Nb at *
 omega
theorem nat_det {p q u v : Nat} (h : Nb (p : Int) q u v) : p * v = u * q + 1 ∨ u * q = p * v + 1 := by
 unfold Nb at h
 rw [← Int.natCast_mul, ← Int.natCast_mul] at h
 omega
/-- Signs and whole parts: the same crossing, all numbers from 0 on. -/
theorem FV.lip1 {p q u v : Int} {n m : Nat} (hn : Nb p q u v) (hq : 0 ≤ q) (hv : 0 ≤ v) (h : FV p q n) (h' : FV u v m) : n ≤ m + 1 := by
 by_cases q0 : q = 0
 ·have := h.pos
  omega
 ·by_cases v0 : v = 0
  ·subst v0
   have h1 : q.natAbs = 1 := by
    have h2 : u * q = 1 ∨ u * q = -1 := by unfold Nb at hn; omega
    have h3 : q ∣ 1 := by
     rcases h2 with h2 | h2
     ·exact ⟨u, by rw [Int.mul_comm]; omega⟩
     ·exact ⟨-u, by rw [Int.mul_neg, Int.mul_comm]; omega⟩
    have := Int.natAbs_dvd_natAbs.2 h3
    simpa using this
   have := h.one.2 h1
   omega
  ·have hp := h.shift ((p.natAbs + u.natAbs : Nat) : Int)
   have hu := h'.shift ((p.natAbs + u.natAbs : Nat) : Int)
   generalize ht : ((p.natAbs + u.natAbs : Nat) : Int) = t at hp hu
   have hd : Nb (p + t * q) q (u + t * v) v := by
    unfold Nb at *
    have : (p + t * q) * v - (u + t * v) * q = p * v - u * q := by grind
    rw [this]
    exact hn
   have tq : t * 1 ≤ t * q := Int.mul_le_mul_of_nonneg_left (by omega) (by omega)
   have tv : t * 1 ≤ t * v := Int.mul_le_mul_of_nonneg_left (by omega) (by omega)
   obtain ⟨a, ha⟩ := Int.eq_ofNat_of_zero_le (show 0 ≤ p + t * q by omega)
   obtain ⟨b, hb⟩ := Int.eq_ofNat_of_zero_le hq
   obtain ⟨c, hc⟩ := Int.eq_ofNat_of_zero_le (show 0 ≤ u + t * v by omega)
   obtain ⟨d, hd'⟩ := Int.eq_ofNat_of_zero_le hv
   rw [ha, hc, hb, hd'] at hd
   rw [ha, hb] at hp
   rw [hc, hd'] at hu
   exact Far.lip (b + d) a b c d n m (Nat.le_refl _) (nat_det hd) hp hu
theorem FV.lip {p q u v : Int} {n m : Nat} (hn : Nb p q u v) (h : FV p q n) (h' : FV u v m) : n ≤ m + 1 := by
 rcases Int.le_total 0 q with hq | hq
 ·rcases Int.le_total 0 v with hv | hv
  ·exact h.lip1 hn hq hv h'
  ·exact h.lip1 (u := -u) (v := -v) (by unfold Nb at *; rw [Int.mul_neg, Int.neg_mul]; omega) hq (by omega) (h'.congr (Int.natAbs_neg u) (Int.natAbs_neg v))
 ·rcases Int.le_total 0 v with hv | hv
  ·exact FV.lip1 (p := -p) (q := -q) (by unfold Nb at *; rw [Int.mul_neg, Int.neg_mul]; omega) (by omega) hv (h.congr (Int.natAbs_neg p) (Int.natAbs_neg q)) h'
  ·exact FV.lip1 (p := -p) (q := -q) (u := -u) (v := -v) (by unfold Nb at *; rw [Int.neg_mul_neg, Int.neg_mul_neg]; omega) (by omega) (by omega) (h.congr (Int.natAbs_neg p) (Int.natAbs_neg q)) (h'.congr (Int.natAbs_neg u) (Int.natAbs_neg v))
/-- Turned about: one more at most, where the denominator is the greater. -/
theorem FV.swap {u v : Int} {m : Nat} (h : FV u v m) (hg : Int.gcd u v = 1) (hlt : 2 ≤ u.natAbs → v.natAbs < u.natAbs) : ∃ m1, m1 ≤ m + 1 ∧ FV v u m1 := by
 obtain ⟨m1, h1⟩ := FV.ex (p := v) (q := u) (by rw [Int.gcd_comm]; exact hg)
 refine ⟨m1, ?_, h1⟩
 by_cases hu : u.natAbs ≤ 1
 ·have := Far.le h1
  omega
 ·have hlt := hlt (by omega)
  unfold FV at h h1
  rw [Nat.mod_eq_of_lt hlt] at h1
  cases h1 with
  | small h2 => omega
  | step h2 h3 h4 ha hb =>
   rename_i a b
   have := Far.uniq ha h
   subst this
   have := Nat.min_le_left a b
   omega
theorem between1 {q r : Nat} {u v : Int} (hr : 1 ≤ r) (hlt : r < q) (hn : Nb q r u v) : 2 ≤ u.natAbs → v.natAbs < u.natAbs := by
 intro h2
 rcases Nat.lt_or_ge v.natAbs u.natAbs with h | h
 ·exact h
 ·exfalso
  have e1 : ((q : Int) * v).natAbs = q * v.natAbs := by rw [Int.natAbs_mul, Int.natAbs_natCast]
  have e2 : (u * (r : Int)).natAbs = r * u.natAbs := by rw [Int.natAbs_mul, Int.natAbs_natCast, Nat.mul_comm]
  have h3 : q * u.natAbs ≤ q * v.natAbs := Nat.mul_le_mul_left _ h
  have h4 : r * u.natAbs ≤ (q - 1) * u.natAbs := Nat.mul_le_mul_right _ (by omega)
  have h5 : (q - 1) * u.natAbs = q * u.natAbs - u.natAbs := by rw [Nat.sub_mul, Nat.one_mul]
  have h6 : 1 * u.natAbs ≤ q * u.natAbs := Nat.mul_le_mul_right _ (by omega)
  unfold Nb at hn
  generalize (q : Int) * v = x at hn e1
  generalize u * (r : Int) = y at hn e2
  omega
theorem Far.near : ∀ (N q p n : Nat), q ≤ N → Far q (p % q) (n + 1) → ∃ (u v : Int) (m : Nat), Nb p q u v ∧ FV u v m ∧ m ≤ n
 | 0, q, p, n, hN, h => by
  have := h.le
  omega
 | N + 1, q, p, n, hN, h => by
  by_cases hq : q ≤ 1
  ·have h1 := h.le
   have h2 : q = 1 := by omega
   subst h2
   exact ⟨1, 0, 0, .inr (by omega), .small (by decide), by omega⟩
  ·generalize hg : p % q = r at h
   generalize hm : n + 1 = n1 at h
   have e := Nat.div_add_mod p q
   rw [hg] at e
   generalize p / q = k at e
   cases h with
   | small h1 => omega
   | step h2 h1 hlt ha hb =>
    rename_i a b
    have pa := ha.pos
    have pb := hb.pos
    rcases Nat.le_total a b with h7 | h7
    ·rw [Nat.min_eq_left h7] at hm
     obtain ⟨a0, rfl⟩ : ∃ z, a = z + 1 := ⟨a - 1, by omega⟩
     obtain ⟨u, v, m, hn, hf, hle⟩ := Far.near N r q a0 (by omega) ha
     obtain ⟨m1, hm1, hf1⟩ := hf.swap (det_gcd hn).2 (between1 h1 hlt hn)
     refine ⟨v + k * u, u, m1, ?_, hf1.shift k, by omega⟩
     have e' : (p : Int) = (q : Int) * k + r := by rw [← e]; simp
     unfold Nb at *
     have : (p : Int) * u - (v + k * u) * q = -((q : Int) * v - u * r) := by rw [e']; grind
     rw [this]
     omega
    ·rw [Nat.min_eq_right h7] at hm
     obtain ⟨b0, rfl⟩ : ∃ z, b = z + 1 := ⟨b - 1, by omega⟩
     obtain ⟨u, v, m, hn, hf, hle⟩ := Far.near N (q - r) q b0 (by omega) hb
     obtain ⟨m1, hm1, hf1⟩ := hf.swap (det_gcd hn).2 (between1 (q := q) (r := q - r) (by omega) (by omega) hn)
     refine ⟨-v + (k + 1) * u, u, m1, ?_, (hf1.congr (p' := -v) (Int.natAbs_neg v) rfl).shift _, by omega⟩
     have e' : (p : Int) = (q : Int) * k + r := by rw [← e]; simp
     have e2 : ((q - r : Nat) : Int) = (q : Int) - r := by omega
     unfold Nb at *
     rw [e2] at hn
     have : (p : Int) * u - (-v + (k + 1) * u) * q = ((q : Int) * v - u * ((q : Int) - r)) := by rw [e']; grind
     rw [this]
     exact hn
theorem FV.near {p q : Int} {n : Nat} (h : FV p q (n + 1)) : ∃ (u v : Int) (m : Nat), Nb p q u v ∧ FV u v m ∧ m ≤ n := by
 obtain ⟨u, v, m, hn, hf, hle⟩ := Far.near q.natAbs q.natAbs p.natAbs n (Nat.le_refl _) h
 have key : ∀ s t : Int, (s = 1 ∨ s = -1) → (t = 1 ∨ t = -1) → p = s * p.natAbs → q = t * q.natAbs → ∃ (u v : Int) (m : Nat), Nb p q u v ∧ FV u v m ∧ m ≤ n := by
  intro s t hs ht hp hq
  refine ⟨t * u, s * v, m, ?_, hf.congr (by rcases ht with rfl | rfl <;> simp) (by rcases hs with rfl | rfl <;> simp), hle⟩
  unfold Nb at *
  have : p * (s * v) - t * u * q = (p.natAbs : Int) * v - u * q.natAbs := by
   conv => lhs; rw [hp, hq]
   generalize (p.natAbs : Int) = P
   generalize (q.natAbs : Int) = Q
   rcases hs with rfl | rfl <;> rcases ht with rfl | rfl <;> grind
  rw [this]
  exact hn
 rcases Int.natAbs_eq p with hp | hp <;> rcases Int.natAbs_eq q with hq | hq
 ·exact key 1 1 (by decide) (by decide) (by omega) (by omega)
 ·exact key 1 (-1) (by decide) (by decide) (by omega) (by omega)
 ·exact key (-1) 1 (by decide) (by decide) (by omega) (by omega)
 ·exact key (-1) (-1) (by decide) (by decide) (by omega) (by omega)
/-- A way of so many steps. -/
inductive Wy : Int → Int → Int → Int → Nat → Prop
 | nil {p q r s : Int} : p * s - r * q = 0 → Wy p q r s 0
 | cons {p q u v r s : Int} {n : Nat} : Nb p q u v → Wy u v r s n → Wy p q r s (n + 1)
theorem FV.way : ∀ (n : Nat) {p q : Int}, FV p q n → ∃ m, m ≤ n ∧ Wy p q 1 0 m := by
 intro n
 induction n using Nat.strongRecOn with
 | _ n ih =>
  intro p q h
  cases n with
  | zero =>
   have := FV.zero.1 h
   exact ⟨0, Nat.le_refl _, .nil (by omega)⟩
  | succ n =>
   obtain ⟨u, v, m, hn, hf, hle⟩ := h.near
   obtain ⟨k, hk, w⟩ := ih m (by omega) hf
   exact ⟨k + 1, by omega, .cons hn w⟩
theorem Wy.map {p q r s : Int} {n : Nat} (h : Wy p q r s n) {a b c d : Int} (hd : a * d - b * c = 1) : Wy (a * p + b * q) (c * p + d * q) (a * r + b * s) (c * r + d * s) n := by
 have hdet : ∀ p q u v : Int, (a * p + b * q) * (c * u + d * v) - (a * u + b * v) * (c * p + d * q) = p * v - u * q := by
  intro p q u v
  have : (a * p + b * q) * (c * u + d * v) - (a * u + b * v) * (c * p + d * q) = (a * d - b * c) * (p * v - u * q) := by grind
  rw [this, hd, Int.one_mul]
 induction h with
 | nil h => exact .nil (by rw [hdet]; exact h)
 | cons hn _ ih => exact .cons (by unfold Nb at *; rw [hdet]; exact hn) ih
theorem par_abs {p q r s : Int} (h : p * s - r * q = 0) (hp : Int.gcd p q = 1) (hr : Int.gcd r s = 1) : p.natAbs = r.natAbs ∧ q.natAbs = s.natAbs := by
 have h1 : p * s = r * q := by omega
 have h2 : p.natAbs * s.natAbs = r.natAbs * q.natAbs := by rw [← Int.natAbs_mul, ← Int.natAbs_mul, h1]
 have hp' : Nat.gcd p.natAbs q.natAbs = 1 := hp
 have hr' : Nat.gcd r.natAbs s.natAbs = 1 := hr
 generalize p.natAbs = p at *
 generalize q.natAbs = q at *
 generalize r.natAbs = r at *
 generalize s.natAbs = s at *
 have d1 : q ∣ s := Nat.Coprime.dvd_of_dvd_mul_left (show Nat.gcd q p = 1 by rw [Nat.gcd_comm]; exact hp') ⟨r, by rw [h2, Nat.mul_comm]⟩
 have d2 : s ∣ q := Nat.Coprime.dvd_of_dvd_mul_left (show Nat.gcd s r = 1 by rw [Nat.gcd_comm]; exact hr') ⟨p, by rw [← h2, Nat.mul_comm]⟩
 have e := Nat.dvd_antisymm d1 d2
 subst e
 refine ⟨?_, rfl⟩
 rcases Nat.eq_zero_or_pos q with h0 | h0
 ·subst h0
  rw [Nat.gcd_zero_right] at hp' hr'
  omega
 ·exact Nat.eq_of_mul_eq_mul_right h0 h2
theorem Wy.lip {p q r s : Int} {n : Nat} (w : Wy p q r s n) : ∀ {m m' : Nat}, Int.gcd p q = 1 → Int.gcd r s = 1 → FV p q m → FV r s m' → m ≤ m' + n ∧ m' ≤ m + n := by
 induction w with
 | nil h =>
  intro m m' hp hr h1 h2
  obtain ⟨e1, e2⟩ := par_abs h hp hr
  have := FV.uniq h1 (h2.congr e1 e2)
  omega
 | cons hn w ih =>
  intro m m' hp hr h1 h2
  obtain ⟨k, hk⟩ := FV.ex (det_gcd hn).2
  have i1 := h1.lip hn hk
  have i2 := hk.lip hn.symm h1
  have i3 := ih (det_gcd hn).2 hr hk h2
  omega
end Go.Proofs.Ytigcjehokbgclaa.L


namespace Go.Proofs.Ytigcjehokbgclaa.L
open Go.RowKit Go.Proofs.Ytigcjehokbgclaa.P Go.Proofs.Ytigcjehokbgclaa.Help Go.Proofs.YtigcjehokbgclaaW.PrintWords
set_option linter.unusedVariables false
set_option linter.unusedSimpArgs false
def DV (a b c d : Int) (n : Nat) : Prop := ∃ x y : Int, a * x + b * y = 1 ∧ FV (x * c + y * d) (a * d - b * c) n
theorem bez_other {a b x y x' y' c d : Int} (h : a * x + b * y = 1) (h' : a * x' + b * y' = 1) : x' * c + y' * d = (x * c + y * d) + (-(x' * y - x * y')) * (a * d - b * c) := by
 have e1 : x' = x + b * (x' * y - x * y') := by
  have : x' - x = x' * (a * x + b * y) - x * (a * x' + b * y') := by rw [h, h', Int.mul_one, Int.mul_one]
  have h2 : x' * (a * x + b * y) - x * (a * x' + b * y') = b * (x' * y - x * y') := by grind
  omega
 have e2 : y' = y - a * (x' * y - x * y') := by
  have : y' - y = y' * (a * x + b * y) - y * (a * x' + b * y') := by rw [h, h', Int.mul_one, Int.mul_one]
  have h2 : y' * (a * x + b * y) - y * (a * x' + b * y') = -(a * (x' * y - x * y')) := by grind
  omega
 generalize x' * y - x * y' = t at e1 e2 ⊢
 subst e1
 subst e2
 grind
theorem DV.at {a b c d : Int} {n : Nat} (h : DV a b c d n) {x y : Int} (hb : a * x + b * y = 1) : FV (x * c + y * d) (a * d - b * c) n := by
 obtain ⟨x', y', h1, h2⟩ := h
 rw [bez_other h1 hb]
 exact h2.shift _
theorem DV.uniq {a b c d : Int} {n m : Nat} (h : DV a b c d n) (h' : DV a b c d m) : n = m := by
 obtain ⟨x, y, h1, h2⟩ := h
 exact h2.uniq (h'.at h1)
theorem DV.zero {a b c d : Int} {n : Nat} (h : DV a b c d n) : n = 0 ↔ a * d - b * c = 0 := by
 obtain ⟨x, y, _, h⟩ := h
 exact h.pos
theorem DV.one {a b c d : Int} {n : Nat} (h : DV a b c d n) : n = 1 ↔ (a * d - b * c).natAbs = 1 := by
 obtain ⟨x, y, _, h⟩ := h
 exact h.one
theorem DV.lip {a b c d c' d' : Int} {n m : Nat} (h : DV a b c d n) (h' : DV a b c' d' m) (hn : Nb c d c' d') : n ≤ m + 1 := by
 obtain ⟨x, y, h1, h2⟩ := h
 refine h2.lip ?_ (h'.at h1)
 unfold Nb at *
 have : (x * c + y * d) * (a * d' - b * c') - (x * c' + y * d') * (a * d - b * c) = (a * x + b * y) * (c * d' - c' * d) := by grind
 rw [this, h1, Int.one_mul]
 exact hn
theorem DV.wy {a b c d : Int} {n : Nat} (h : DV a b c d n) : ∃ m, m ≤ n ∧ Wy c d a b m := by
 obtain ⟨x, y, h1, h2⟩ := h
 obtain ⟨m, hm, w⟩ := FV.way n h2
 refine ⟨m, hm, ?_⟩
 have w2 := w.map (a := a) (b := -y) (c := b) (d := x) (by rw [Int.neg_mul]; have := Int.mul_comm y b; omega)
 rw [show a * (x * c + y * d) + -y * (a * d - b * c) = (a * x + b * y) * c by grind, show b * (x * c + y * d) + x * (a * d - b * c) = (a * x + b * y) * d by grind, h1, Int.one_mul, Int.one_mul, Int.mul_one, Int.mul_zero, Int.add_zero, Int.mul_one, Int.mul_zero, Int.add_zero] at w2
 exact w2
theorem DV.le_symm {a b c d : Int} {n m : Nat} (hg : Int.gcd a b = 1) (h : DV a b c d n) (h' : DV c d a b m) : m ≤ n := by
 obtain ⟨k, hk, w⟩ := h.wy
 obtain ⟨x, y, h1, h2⟩ := h'
 have w2 := w.map (a := x) (b := y) (c := -d) (d := c) (by rw [Int.mul_neg]; have := Int.mul_comm x c; have := Int.mul_comm y d; omega)
 have e1 : x * c + y * d = 1 := by have := Int.mul_comm x c; have := Int.mul_comm y d; omega
 have e2 : -d * c + c * d = 0 := by grind
 rw [e1, e2] at w2
 have hq : -d * a + c * b = c * b - d * a := by grind
 rw [hq] at w2
 have hp : Int.gcd (x * a + y * b) (c * b - d * a) = 1 := by
  have := gcd_one (a := c) (b := d) (c := a) (d := b) (x := x) (y := y) h1 hg
  rw [Int.gcd_comm]
  exact this
 have := w2.lip (m := 0) (by decide) hp (FV.zero.2 rfl) h2
 omega
theorem DV.symm {a b c d : Int} {n m : Nat} (hg : Int.gcd a b = 1) (hg' : Int.gcd c d = 1) (h : DV a b c d n) (h' : DV c d a b m) : m = n := by
 have := h.le_symm hg h'
 have := h'.le_symm hg' h
 omega
theorem DV.move {a b c d : Int} {n : Nat} (h : DV a b c d n) {A B C D s t : Int} (hd : A * D - B * C = 1) (hs : s = 1 ∨ s = -1) (ht : t = 1 ∨ t = -1) :
  DV (s * (A * a + B * b)) (s * (C * a + D * b)) (t * (A * c + B * d)) (t * (C * c + D * d)) n := by
 obtain ⟨x, y, h1, h2⟩ := h
 have ss : s * s = 1 := by rcases hs with rfl | rfl <;> decide
 refine ⟨s * (x * D - y * C), s * (y * A - x * B), ?_, ?_⟩
 ·have : s * (A * a + B * b) * (s * (x * D - y * C)) + s * (C * a + D * b) * (s * (y * A - x * B)) = (s * s) * ((A * D - B * C) * (a * x + b * y)) := by grind
  rw [this, ss, hd, h1]
  decide
 ·refine h2.congr ?_ ?_
  ·have : s * (x * D - y * C) * (t * (A * c + B * d)) + s * (y * A - x * B) * (t * (C * c + D * d)) = (s * t) * ((A * D - B * C) * (x * c + y * d)) := by grind
   rw [this, hd, Int.one_mul, Int.natAbs_mul]
   rcases hs with rfl | rfl <;> rcases ht with rfl | rfl <;> simp
  ·have : s * (A * a + B * b) * (t * (C * c + D * d)) - s * (C * a + D * b) * (t * (A * c + B * d)) = (s * t) * ((A * D - B * C) * (a * d - b * c)) := by grind
   rw [this, hd, Int.one_mul, Int.natAbs_mul]
   rcases hs with rfl | rfl <;> rcases ht with rfl | rfl <;> simp
/-- The programs' number is the relation's. -/
theorem dS_dv {p q r s : Int} (h1 : isS p q = true) (h2 : isS r s = true) : DV p q r s (dS p q r s).toNat := by
 obtain ⟨n, e1, e2, e3, e4, x, y, hb, hf⟩ := both2 h1 h2
 have ed : dS p q r s = (n : Int) := by unfold dS; rw [e2]; rfl
 rw [ed, Int.toNat_natCast]
 exact ⟨x, y, hb, FV_modI.1 hf⟩
theorem dS_symm {p q r s : Int} (h1 : isS p q = true) (h2 : isS r s = true) : dS p q r s = dS r s p q := by
 have k1 := dS_dv h1 h2
 have k2 := dS_dv h2 h1
 have := k1.symm (isS_ok h1).2.2 (isS_ok h2).2.2 k2
 have := (dist_f h1 h2 10000002 (by decide)).2.2.1
 have := (dist_f h2 h1 10000002 (by decide)).2.2.1
 omega
theorem dS_one {p q r s : Int} (h1 : isS p q = true) (h2 : isS r s = true) : dS p q r s = 1 ↔ (p * s - q * r).natAbs = 1 := by
 have k1 := dS_dv h1 h2
 have := k1.one
 have := (dist_f h1 h2 10000002 (by decide)).2.2.1
 omega
theorem nb_cross {p q u v : Int} (h : crossR p q u v = 1) : Nb p q u v := by
 obtain ⟨h1, h2⟩ := crossR_is h
 unfold crossR at h
 rw [if_pos ⟨h1, h2⟩] at h
 unfold Nb
 rw [Int.mul_comm u q]
 omega
theorem dS_lip {p q u v r s : Int} (h1 : isS p q = true) (h2 : isS u v = true) (h3 : isS r s = true) (h : Nb p q u v) : dS p q r s ≤ dS u v r s + 1 := by
 rw [dS_symm h1 h3, dS_symm h2 h3]
 have := (dS_dv h3 h1).lip (dS_dv h3 h2) h
 have := (dist_f h3 h1 10000002 (by decide)).2.2.1
 have := (dist_f h3 h2 10000002 (by decide)).2.2.1
 omega
theorem dS_move {p q r s p' q' r' s' A B C D e f : Int} (h1 : isS p q = true) (h2 : isS r s = true) (h3 : isS p' q' = true) (h4 : isS r' s' = true) (hd : A * D - B * C = 1) (he : e = 1 ∨ e = -1) (hf : f = 1 ∨ f = -1)
  (e1 : p' = e * (A * p + B * q)) (e2 : q' = e * (C * p + D * q)) (e3 : r' = f * (A * r + B * s)) (e4 : s' = f * (C * r + D * s)) : dS p' q' r' s' = dS p q r s := by
 have k1 := (dS_dv h1 h2).move hd he hf
 rw [← e1, ← e2, ← e3, ← e4] at k1
 have := k1.uniq (dS_dv h3 h4)
 have := (dist_f h1 h2 10000002 (by decide)).2.2.1
 have := (dist_f h3 h4 10000002 (by decide)).2.2.1
 omega
end Go.Proofs.Ytigcjehokbgclaa.L

namespace Go.Proofs.Ytigcjehokbgclaa.L
open Go.RowKit Go.Proofs.Ytigcjehokbgclaa.P Go.Proofs.Ytigcjehokbgclaa.Help Go.Proofs.YtigcjehokbgclaaW.PrintWords
set_option linter.unusedVariables false
set_option linter.unusedSimpArgs false
/-- A way of n steps. -/
inductive WayL : Int → Int → Int → Int → Nat → List S25 → Prop
 | one {p q : Int} : WayL p q p q 0 [⟨p, q⟩]
 | cons {p q u v r s : Int} {n : Nat} {w : List S25} : crossR p q u v = 1 → WayL u v r s n w → WayL p q r s (n + 1) (⟨p, q⟩ :: w)
theorem WayL.len {p q r s : Int} {n : Nat} {w : List S25} (h : WayL p q r s n w) : w.length = n + 1 := by
 induction h with
 | one => rfl
 | cons _ _ ih => rw [List.length_cons, ih]
theorem WayL.head {p q r s : Int} {n : Nat} {w : List S25} (h : WayL p q r s n w) : w[0]? = some ⟨p, q⟩ := by
 cases h <;> rfl
theorem WayL.last {p q r s : Int} {n : Nat} {w : List S25} (h : WayL p q r s n w) : w[n]? = some ⟨r, s⟩ := by
 induction h with
 | one => rfl
 | cons _ _ ih => simpa using ih
theorem WayL.next {p q r s : Int} {n : Nat} {w : List S25} (h : WayL p q r s n w) : ∀ (i : Nat) (a b : S25), w[i]? = some a → w[i + 1]? = some b → crossR a.f0 a.f1 b.f0 b.f1 = 1 := by
 induction h with
 | one =>
  intro i a b _ hb
  simp at hb
 | cons hc hw ih =>
  intro i a b ha hb
  cases i with
  | zero =>
   rw [List.getElem?_cons_zero] at ha
   rw [List.getElem?_cons_succ, hw.head] at hb
   obtain rfl := Option.some.inj ha
   obtain rfl := Option.some.inj hb
   exact hc
  | succ i =>
   rw [List.getElem?_cons_succ] at ha hb
   exact ih i a b ha hb
theorem way_chain {r s : Int} (hs : isS r s = true) : ∀ (n : Nat) (p q : Int) (out : List S25) (k : Nat), isS p q = true → dS p q r s = (n : Int) → out.length + n ≤ 3000000 → 22000 * n + 11000000 < k →
  ∃ res, impl_StepsBetween.l0 k (out ++ [⟨p, q⟩]) (n : Int) r s p q = some res ∧ spec_StepsBetween.l0 k (out ++ [⟨p, q⟩]) (allR 60) r s = some res ∧ (res = [] ∨ ∃ w, res = out ++ w ∧ WayL p q r s n w) := by
 intro n
 induction n using Nat.strongRecOn with
 | _ n ih =>
  intro p q out k hp hd ho hk
  obtain ⟨k, rfl⟩ : ∃ m, k = m + 1 := ⟨k - 1, by omega⟩
  have hal := allR_len 60 (by decide)
  have hnl : (nbR p q 60).length ≤ 21000 := Nat.le_trans (List.length_filter_le _ _) hal
  have hni : ∀ t ∈ nbR p q 60, isS t.f0 t.f1 = true := fun t h => allR_is 60 t (List.mem_filter.1 h).1
  obtain ⟨_, e2, e3, e4, e5⟩ := dist_f hp hs k (by omega)
  have hr : rd_T25 (out ++ [⟨p, q⟩]) (out.length : Int) = ⟨p, q⟩ := by
   rw [rdT_nat _ _ (by simp)]
   simp
  have hw : wrap64 (((out ++ [(⟨p, q⟩ : S25)]).length : Int) - 1) = (out.length : Int) := by
   rw [List.length_append, List.length_singleton, w_id (by omega) (by omega)]
   omega
  simp only [impl_StepsBetween.l0, spec_StepsBetween.l0]
  rw [hw, hr, if_pos (show (0 : Int) ≤ (out.length : Int) by omega), if_pos (show (out.length : Int) < ((out ++ [(⟨p, q⟩ : S25)]).length : Int) by rw [List.length_append, List.length_singleton]; omega)]
  by_cases h0 : n = 0
  ·subst h0
   have h1 := same_of hp hs (e5.1 hd)
   rw [if_neg (show ¬ ((0 : Nat) : Int) > 0 by decide), if_neg (by simp [h1.1, h1.2])]
   exact ⟨_, rfl, rfl, .inr ⟨_, rfl, by rw [← h1.1, ← h1.2]; exact .one⟩⟩
  ·have h1 : ¬ (p = r ∧ q = s) := fun h => h0 (by
    have := e5.2 (by rw [h.1, h.2, Int.mul_comm])
    omega)
   rw [if_pos (show (n : Int) > 0 by omega), if_pos (show ((!p == r) || (!q == s)) = true by
    by_cases c : p = r
    ·simp [c, show ¬ q = s from fun h => h1 ⟨c, h⟩]
    ·simp [c]), impl_nb p q hp 60 (by decide) k (by omega), Option.bind_some, e2, Option.bind_some, hd]
   have g1 := im_st1 hs (nbR p q 60) (by omega) hni (out ++ [⟨p, q⟩]) (n : Int) (nbR p q 60).length k 0 (n : Int) 0 0 (by omega) (by omega)
   have g2 := sp_st1 (p := p) (q := q) hs (allR 60) (by omega) (allR_is 60) (out ++ [⟨p, q⟩]) (allR 60).length k 0 (n : Int) p q (by omega) (by omega)
   rw [List.drop_zero] at g1 g2
   rw [show (allR 60).filter (crossing p q) = nbR p q 60 from rfl] at g2
   rw [show ((0 : Nat) : Int) = 0 from rfl] at g1 g2
   rw [g1, g2]
   obtain ⟨s1, s2⟩ := scan_ind r s (nbR p q 60) (n : Int) 0 0 p q
   rcases scan_mem r s (nbR p q 60) (n : Int) p q with c | ⟨c1, t, ht, c2⟩
   ·rw [if_pos (by rw [s1, c]), if_pos (by rw [c]; simp)]
    exact ⟨_, rfl, rfl, .inl rfl⟩
   ·have c3 := s2 (by rw [s1]; exact c1)
    rw [c2] at c1 c3
    rw [c2, c3]
    have c1 : dS t.f0 t.f1 r s < (n : Int) := c1
    have ht2 := hni t ht
    obtain ⟨_, _, f3, _, _⟩ := dist_f ht2 hs k (by omega)
    have hlen : (out ++ [(⟨p, q⟩ : S25)]).length < 8796093022208 := by rw [List.length_append, List.length_singleton]; omega
    rw [if_neg (by dsimp only; omega), if_pos hlen, if_neg (by
     intro h
     rw [Bool.and_eq_true, beq_iff_eq, beq_iff_eq] at h
     dsimp only at h
     rw [h.1, h.2] at c1
     omega)]
    obtain ⟨m, hm⟩ : ∃ m : Nat, dS t.f0 t.f1 r s = (m : Int) := ⟨_, (Int.toNat_of_nonneg f3).symm⟩
    dsimp only
    rw [hm]
    have hmn : m < n := by omega
    obtain ⟨res, r1, _, r3⟩ := ih m hmn t.f0 t.f1 (out ++ [⟨p, q⟩]) (k - (nbR p q 60).length - 1) ht2 hm (by rw [List.length_append, List.length_singleton]; omega) (by omega)
    obtain ⟨res2, _, r2, _⟩ := ih m hmn t.f0 t.f1 (out ++ [⟨p, q⟩]) (k - (allR 60).length - 1) ht2 hm (by rw [List.length_append, List.length_singleton]; omega) (by omega)
    have hu : ∀ j (r4 : List S25) d, spec_StepsBetween.l0 j (out ++ [⟨p, q⟩] ++ [⟨t.f0, t.f1⟩]) (allR 60) r s = some r4 → spec_StepsBetween.l0 (j + d) (out ++ [⟨p, q⟩] ++ [⟨t.f0, t.f1⟩]) (allR 60) r s = some r4 := by
     intro j r4 d h
     induction d with
     | zero => exact h
     | succ d ihd => exact (spec_StepsBetween.mono_l (j + d)).2.1 _ _ _ _ r4 ihd
    obtain ⟨res3, u1, u2, u3⟩ := ih m hmn t.f0 t.f1 (out ++ [⟨p, q⟩]) (22000 * m + 11000000 + 1) ht2 hm (by rw [List.length_append, List.length_singleton]; omega) (by omega)
    have hui : ∀ j (r4 : List S25) d, impl_StepsBetween.l0 j (out ++ [⟨p, q⟩] ++ [⟨t.f0, t.f1⟩]) (m : Int) r s t.f0 t.f1 = some r4 → impl_StepsBetween.l0 (j + d) (out ++ [⟨p, q⟩] ++ [⟨t.f0, t.f1⟩]) (m : Int) r s t.f0 t.f1 = some r4 := by
     intro j r4 d h
     induction d with
     | zero => exact h
     | succ d ihd => exact (impl_StepsBetween.mono_l (j + d)).2.1 _ _ _ _ _ _ r4 ihd
    have v1 := hui _ _ (k - (nbR p q 60).length - 1 - (22000 * m + 11000000 + 1)) u1
    have v2 := hu _ _ (k - (allR 60).length - 1 - (22000 * m + 11000000 + 1)) u2
    rw [show 22000 * m + 11000000 + 1 + (k - (nbR p q 60).length - 1 - (22000 * m + 11000000 + 1)) = k - (nbR p q 60).length - 1 by omega] at v1
    rw [show 22000 * m + 11000000 + 1 + (k - (allR 60).length - 1 - (22000 * m + 11000000 + 1)) = k - (allR 60).length - 1 by omega] at v2
    refine ⟨res3, v1, by rw [if_pos hlen]; exact v2, ?_⟩
    rcases u3 with u3 | ⟨w, u3, u4⟩
    ·exact .inl u3
    ·refine .inr ⟨⟨p, q⟩ :: w, by rw [u3, List.append_assoc]; rfl, ?_⟩
     have hcr : crossR p q t.f0 t.f1 = 1 := of_decide_eq_true (List.mem_filter.1 ht).2
     have hlip := dS_lip hp ht2 hs (nb_cross hcr)
     have hmn : n = m + 1 := by omega
     rw [hmn]
     exact .cons hcr u4
/-- Numbers up to 20. -/
def smallS (p q : Int) : Bool := isS p q && decide (-20 ≤ p ∧ p ≤ 20) && decide (q ≤ 20)
theorem spec_small (p q : Int) (k : Nat) (hk : 1000 < k) : spec_l14Small.f k p q = some (smallS p q) := by
 unfold spec_l14Small.f smallS
 rw [spec_isS _ _ _ hk, Option.bind_some, l1In_eq, Option.bind_some]
 by_cases h : isS p q = true
 ·by_cases h2 : -20 ≤ p ∧ p ≤ 20
  ·rw [if_pos h, if_pos (decide_eq_true h2), h]; simp [h2]
  ·rw [if_pos h, if_neg (by simpa using h2), h, decide_eq_false h2]; rfl
 ·rw [if_neg h, Bool.eq_false_iff.2 h]; rfl
theorem impl_small (p q : Int) (k : Nat) (hk : 1000 < k) : impl_isNear.f k p q = some (smallS p q) := by
 unfold impl_isNear.f smallS
 rw [impl_isS _ _ _ hk, Option.bind_some]
 by_cases h : isS p q = true
 ·obtain ⟨h3, _⟩ := isS_true h
  rw [if_pos h, size_eq (by omega) (by omega), Option.bind_some, h]
  by_cases h2 : -20 ≤ p ∧ p ≤ 20
  ·rw [if_pos (by omega)]; simp [h2]
  ·rw [if_neg (by omega), decide_eq_false h2]; rfl
 ·rw [if_neg h, Bool.eq_false_iff.2 h]; rfl
theorem steps_chain (p q r s : Int) (k : Nat) (hk : 100000000000 ≤ k) : ∃ res, impl_StepsBetween.f k p q r s = some res ∧ spec_StepsBetween.f k p q r s = some res ∧ (res = [] ∨ isS p q = true ∧ isS r s = true ∧ WayL p q r s (dS p q r s).toNat res) := by
 unfold impl_StepsBetween.f spec_StepsBetween.f
 rw [impl_small _ _ _ (by omega), spec_small _ _ _ (by omega), impl_small _ _ _ (by omega), spec_small _ _ _ (by omega)]
 simp only [Option.bind_some]
 obtain ⟨k, rfl⟩ : ∃ m, k = m + 1 := ⟨k - 1, by omega⟩
 by_cases h1 : smallS p q = true
 ·by_cases h2 : smallS r s = true
  ·rw [if_pos h1, if_pos h1, h2]
   simp only [impl_StepsBetween.j0, spec_StepsBetween.j0]
   unfold smallS at h1 h2
   simp only [Bool.and_eq_true] at h1 h2
   obtain ⟨e1, _, e3, e4, _⟩ := dist_f h1.1.1 h2.1.1 k (by omega)
   obtain ⟨n, hn⟩ : ∃ n : Nat, dS p q r s = (n : Int) := ⟨_, (Int.toNat_of_nonneg e3).symm⟩
   rw [e1, Option.bind_some, spec_all 60 (by decide) k (by omega), Option.bind_some, hn, if_neg (by decide), if_neg (by decide)]
   obtain ⟨res, r1, r2, r3⟩ := way_chain h2.1.1 n p q [] k h1.1.1 hn (by rw [List.length_nil]; omega) (by omega)
   refine ⟨res, r1, r2, ?_⟩
   rcases r3 with r3 | ⟨w, r3, r4⟩
   ·exact .inl r3
   ·rw [r3, List.nil_append]
    exact .inr ⟨h1.1.1, h2.1.1, r4⟩
  ·rw [if_pos h1, if_pos h1, Bool.eq_false_iff.2 h2]
   exact ⟨[], rfl, rfl, .inl rfl⟩
 ·rw [if_neg h1, if_neg h1]
  exact ⟨[], rfl, rfl, .inl rfl⟩
end Go.Proofs.Ytigcjehokbgclaa.L

namespace Go.Proofs.Ytigcjehokbgclaa.L
open Go.RowKit Go.Proofs.Ytigcjehokbgclaa.P Go.Proofs.Ytigcjehokbgclaa.Help Go.Proofs.YtigcjehokbgclaaW.PrintWords
set_option linter.unusedVariables false
set_option linter.unusedSimpArgs false
theorem spec_nb_l0 (p q : Int) (xs : List S25) (hx : xs.length ≤ 1000000) : ∀ (d k i : Nat) (o : List S25), i + d = xs.length → d + 1001 < k → o.length ≤ i → spec_NeighbourSlopes.l0 k o xs (i : Int) p q = some (o ++ (xs.drop i).filter (crossing p q)) := by
 intro d
 induction d with
 | zero =>
  intro k i o hi hk ho
  obtain ⟨k, rfl⟩ : ∃ m, k = m + 1 := ⟨k - 1, by omega⟩
  conv => lhs; unfold spec_NeighbourSlopes.l0
  rw [if_neg (by omega), List.drop_of_length_le (by omega)]
  simp
 | succ d ih =>
  intro k i o hi hk ho
  obtain ⟨k, rfl⟩ : ∃ m, k = m + 1 := ⟨k - 1, by omega⟩
  have hlt : i < xs.length := by omega
  conv => lhs; unfold spec_NeighbourSlopes.l0
  rw [if_pos (by omega), if_pos (by omega), rdT_nat xs i hlt, spec_cross _ _ _ _ k (by omega), Option.bind_some, w_id (by omega) (by omega), show ((i : Int) + 1) = ((i + 1 : Nat) : Int) by omega, List.drop_eq_getElem_cons hlt, List.filter_cons]
  by_cases h : crossR p q xs[i].f0 xs[i].f1 = 1
  ·rw [if_pos h, if_pos (by omega), if_pos (show crossing p q xs[i] = true from decide_eq_true h), ih k (i + 1) _ (by omega) (by omega) (by simp; omega), List.append_assoc]
   rfl
  ·rw [if_neg h, if_neg (show ¬ crossing p q xs[i] = true by unfold crossing; simpa using h), ih k (i + 1) o (by omega) (by omega) (by omega)]
def neighR (p q most : Int) : List S25 := if isS p q = true ∧ 1 ≤ most ∧ most ≤ 20 then nbR p q most else []
theorem neighR_len (p q most : Int) : (neighR p q most).length ≤ 21000 := by
 unfold neighR
 split
 ·rename_i h
  exact Nat.le_trans (List.length_filter_le _ _) (allR_len most (by omega))
 ·simp
theorem spec_neigh (p q most : Int) (k : Nat) (hk : 30000 < k) : spec_NeighbourSlopes.f k p q most = some (neighR p q most) := by
 obtain ⟨k, rfl⟩ : ∃ m, k = m + 1 := ⟨k - 1, by omega⟩
 unfold spec_NeighbourSlopes.f neighR
 simp only [Option.bind_some]
 rw [spec_isS _ _ _ (by omega), l1In_eq, Option.bind_some, Option.bind_some]
 by_cases h : isS p q = true
 ·rw [if_pos h]
  conv => lhs; unfold spec_NeighbourSlopes.j0; dsimp only
  by_cases h2 : 1 ≤ most ∧ most ≤ 20
  ·have hl := allR_len most (by omega)
   rw [if_neg (by simp; omega), if_pos ⟨h, h2⟩, spec_all most (by omega) k (by omega), Option.bind_some]
   exact spec_nb_l0 p q (allR most) (by omega) (allR most).length k 0 [] (by omega) (by omega) (by simp)
  ·rw [if_pos (by simp; omega), if_neg (fun h => h2 h.2)]
 ·rw [if_neg h, if_neg (fun h' => h h'.1)]
  conv => lhs; unfold spec_NeighbourSlopes.j0; dsimp only
  rw [if_pos rfl]
theorem impl_neigh (p q most : Int) (k : Nat) (hk : 30000 < k) : impl_NeighbourSlopes.f k p q most = some (neighR p q most) := by
 unfold impl_NeighbourSlopes.f neighR
 rw [impl_isS _ _ _ (by omega), within_eq, Option.bind_some, Option.bind_some]
 by_cases h : isS p q = true
 ·rw [if_pos h]
  by_cases h2 : 1 ≤ most ∧ most ≤ 20
  ·rw [if_pos (decide_eq_true h2), if_pos ⟨h, h2⟩, impl_nb p q h most (by omega) k (by omega)]
   rfl
  ·rw [if_neg (by simpa using h2), if_neg (fun h => h2 h.2)]
 ·rw [if_neg h, if_neg (fun h' => h h'.1)]
end Go.Proofs.Ytigcjehokbgclaa.L

namespace Go.Proofs.Ytigcjehokbgclaa.L
open Go.RowKit Go.Proofs.Ytigcjehokbgclaa.P Go.Proofs.Ytigcjehokbgclaa.Help Go.Proofs.YtigcjehokbgclaaW.PrintWords
set_option linter.unusedVariables false
set_option linter.unusedSimpArgs false

theorem impl_crossN (p q r s : Int) (k : Nat) (hk : 1000 < k) : impl_CrossNumber.f k p q r s = some (crossR p q r s) := by
 unfold impl_CrossNumber.f crossR
 rw [impl_isS _ _ _ hk, impl_isS _ _ _ hk, Option.bind_some, Option.bind_some]
 by_cases h : isS p q = true
 ·rw [if_pos h]
  by_cases h2 : isS r s = true
  ·obtain ⟨hp, hq, _⟩ := isS_true h
   obtain ⟨hr, hs, _⟩ := isS_true h2
   rw [if_pos h2, if_pos ⟨h, h2⟩, impl_cross_eq hp (by omega) hr (by omega)]
   rfl
  ·rw [if_neg h2, if_neg (fun h => h2 h.2)]
 ·rw [if_neg h, if_neg (fun h' => h h'.1)]
end Go.Proofs.Ytigcjehokbgclaa.L

namespace Go.Proofs.Ytigcjehokbgclaa.L
open Go.RowKit Go.Proofs.Ytigcjehokbgclaa.P Go.Proofs.Ytigcjehokbgclaa.Help Go.Proofs.YtigcjehokbgclaaW.PrintWords
set_option linter.unusedVariables false
set_option linter.unusedSimpArgs false

/-- The slope of two numbers. -/
def slopeR (p q : Int) : Int × Int × Bool :=
 if (-1000 ≤ p ∧ p ≤ 1000) ∧ (-1000 ≤ q ∧ q ≤ 1000) ∧ ¬ (p = 0 ∧ q = 0) then
  if q < 0 ∨ (q = 0 ∧ p < 0) then (-(p.tdiv (Int.gcd p q)), -(q.tdiv (Int.gcd p q)), true) else (p.tdiv (Int.gcd p q), q.tdiv (Int.gcd p q), true)
 else (0, 0, false)
/-- Two numbers by their greatest common divisor. -/
theorem parts (p q : Int) (h : ¬ (p = 0 ∧ q = 0)) : ∃ g m n : Int, 0 < g ∧ (Int.gcd p q : Int) = g ∧ p = g * m ∧ q = g * n ∧ p.tdiv g = m ∧ q.tdiv g = n ∧ (n < 0 ↔ q < 0) ∧ (n = 0 ↔ q = 0) ∧ (m < 0 ↔ p < 0) ∧ (m = 0 ↔ p = 0) ∧ m.natAbs ≤ p.natAbs ∧ n.natAbs ≤ q.natAbs := by
 have hg : 0 < (Int.gcd p q : Int) := by
  have : Int.gcd p q ≠ 0 := fun h0 => h (Int.gcd_eq_zero_iff.1 h0)
  omega
 obtain ⟨m, hm⟩ := Int.gcd_dvd_left (a := p) (b := q)
 obtain ⟨n, hn⟩ := Int.gcd_dvd_right (a := p) (b := q)
 have sgn : ∀ x y : Int, y = (Int.gcd p q : Int) * x → (x < 0 ↔ y < 0) ∧ (x = 0 ↔ y = 0) ∧ x.natAbs ≤ y.natAbs ∧ y.tdiv (Int.gcd p q : Int) = x := by
  intro x y hy
  refine ⟨?_, ?_, ?_, ?_⟩
  ·constructor
   ·intro hx; rw [hy]; exact Int.mul_neg_of_pos_of_neg hg hx
   ·intro hlt
    rcases Int.lt_or_le x 0 with hx | hx
    ·exact hx
    ·have := Int.mul_nonneg (Int.le_of_lt hg) hx
     omega
  ·constructor
   ·intro hx; rw [hy, hx, Int.mul_zero]
   ·intro h0
    rw [hy] at h0
    rcases Int.mul_eq_zero.1 h0 with h1 | h1
    ·omega
    ·exact h1
  ·rw [hy, Int.natAbs_mul]
   exact Nat.le_mul_of_pos_left _ (by omega)
  ·rw [hy, Int.mul_tdiv_cancel_left _ (by omega)]
 obtain ⟨a1, a2, a3, a4⟩ := sgn m p hm
 obtain ⟨b1, b2, b3, b4⟩ := sgn n q hn
 exact ⟨_, m, n, hg, rfl, hm, hn, a4, b4, b1, b2, a1, a2, a3, b3⟩
theorem slopeR_no {p q : Int} (h : ¬ ((-1000 ≤ p ∧ p ≤ 1000) ∧ (-1000 ≤ q ∧ q ≤ 1000) ∧ ¬ (p = 0 ∧ q = 0))) : slopeR p q = (0, 0, false) := by
 unfold slopeR
 rw [if_neg h]
theorem slopeR_yes {p q : Int} (h : (-1000 ≤ p ∧ p ≤ 1000) ∧ (-1000 ≤ q ∧ q ≤ 1000) ∧ ¬ (p = 0 ∧ q = 0)) : slopeR p q = if q < 0 ∨ (q = 0 ∧ p < 0) then (-(p.tdiv (Int.gcd p q)), -(q.tdiv (Int.gcd p q)), true) else (p.tdiv (Int.gcd p q), q.tdiv (Int.gcd p q), true) := by
 unfold slopeR
 rw [if_pos h]
theorem spec_slope (p q : Int) (k : Nat) (hk : 1001 < k) : spec_SlopeOf.f k p q = some (slopeR p q) := by
 obtain ⟨k, rfl⟩ : ∃ m, k = m + 1 := ⟨k - 1, by omega⟩
 unfold spec_SlopeOf.f
 rw [l1In_eq, l1In_eq, Option.bind_some, Option.bind_some]
 by_cases h1 : -1000 ≤ p ∧ p ≤ 1000
 ·by_cases h2 : -1000 ≤ q ∧ q ≤ 1000
  ·rw [if_pos (decide_eq_true h1), if_pos (decide_eq_true h2)]
   by_cases h3 : p = 0 ∧ q = 0
   ·rw [slopeR_no (fun h => h.2.2 h3)]
    obtain ⟨rfl, rfl⟩ := h3
    simp [spec_SlopeOf.j0]
   ·rw [slopeR_yes ⟨h1, h2, h3⟩]
    have hj : (if p = 0 then spec_SlopeOf.j0 (k + 1) p q (q == 0) else spec_SlopeOf.j0 (k + 1) p q false) = spec_SlopeOf.j0 (k + 1) p q false := by
     split
     ·rename_i h4
      rw [show (q == 0) = false from by simpa using fun h5 => h3 ⟨h4, h5⟩]
     ·rfl
    rw [hj]
    simp only [spec_SlopeOf.j0]
    rw [if_neg (by decide), spec_gcd p q k (by omega) (by omega) (by omega), Option.bind_some]
    obtain ⟨g, m, n, hg, hge, hp, hq, dm, dn, s1, s2, s3, s4, b1, b2⟩ := parts p q h3
    rw [hge]
    have hgb : g ≤ 1000 := by
     have h5 : g.natAbs ≤ 1000 := by
      by_cases h0 : p = 0
      ·have : q ≠ 0 := fun h => h3 ⟨h0, h⟩
       have h6 : q.natAbs = g.natAbs * n.natAbs := by rw [hq, Int.natAbs_mul]
       have h7 : 0 < n.natAbs := by omega
       have := Nat.le_mul_of_pos_right g.natAbs h7
       omega
      ·have h6 : p.natAbs = g.natAbs * m.natAbs := by rw [hp, Int.natAbs_mul]
       have h7 : 0 < m.natAbs := by omega
       have := Nat.le_mul_of_pos_right g.natAbs h7
       omega
     omega
    rw [w_id (a := -g) (by omega) (by omega), Int.tdiv_neg, Int.tdiv_neg, dm, dn, w_id (a := m) (by omega) (by omega), w_id (a := n) (by omega) (by omega), w_id (a := -m) (by omega) (by omega), w_id (a := -n) (by omega) (by omega)]
    by_cases c1 : q < 0
    ·rw [if_pos c1, if_neg (by omega), if_pos (.inl c1)]
    ·rw [if_neg c1]
     by_cases c2 : q = 0
     ·rw [if_pos c2]
      by_cases c3 : p < 0
      ·rw [if_pos c3, if_neg (by omega), if_pos (.inr ⟨c2, c3⟩)]
      ·rw [if_neg c3, if_neg (by omega), if_neg (by omega)]
     ·rw [if_neg c2, if_neg (by omega), if_neg (by omega)]
  ·rw [if_pos (decide_eq_true h1), if_neg (by simpa using h2), slopeR_no (fun h => h2 h.2.1)]
   simp [spec_SlopeOf.j0]
 ·rw [if_neg (by simpa using h1), slopeR_no (fun h => h1 h.1)]
  simp [spec_SlopeOf.j0]
theorem slopeR_ok {p q : Int} (h1 : -1000 ≤ p ∧ p ≤ 1000) (h2 : -1000 ≤ q ∧ q ≤ 1000) (h3 : ¬ (p = 0 ∧ q = 0)) : (slopeR p q).2.2 = true := by
 unfold slopeR
 rw [if_pos ⟨h1, h2, h3⟩]
 split <;> rfl
end Go.Proofs.Ytigcjehokbgclaa.L

namespace Go.Proofs.Ytigcjehokbgclaa.L
open Go.RowKit Go.Proofs.Ytigcjehokbgclaa.P Go.Proofs.Ytigcjehokbgclaa.Help Go.Proofs.YtigcjehokbgclaaW.PrintWords
set_option linter.unusedVariables false
set_option linter.unusedSimpArgs false

theorem impl_lowest_eq (p q : Int) (k : Nat) (hk : 1000 < k) (h1 : -1000 ≤ p ∧ p ≤ 1000) (h2 : -1000 ≤ q ∧ q ≤ 1000) (h3 : ¬ (p = 0 ∧ q = 0)) : impl_lowest.f k p q = some ((slopeR p q).1, (slopeR p q).2.1) := by
 unfold impl_lowest.f
 rw [slopeR_yes ⟨h1, h2, h3⟩, impl_gcd_eq p q k (by omega) (by omega) (by omega), Option.bind_some]
 obtain ⟨g, m, n, hg, hge, hp, hq, dm, dn, s1, s2, s3, s4, b1, b2⟩ := parts p q h3
 rw [hge, dm, dn, if_neg (by omega), w_id (a := m) (by omega) (by omega), w_id (a := n) (by omega) (by omega), w_id (a := -m) (by omega) (by omega), w_id (a := -n) (by omega) (by omega)]
 by_cases c1 : q < 0
 ·rw [if_pos (s1.2 c1), if_pos (.inl c1)]
 ·rw [if_neg (fun h => c1 (s1.1 h))]
  by_cases c2 : q = 0
  ·rw [if_pos (s2.2 c2)]
   by_cases c3 : p < 0
   ·rw [if_pos (s3.2 c3), if_pos (.inr ⟨c2, c3⟩)]
   ·rw [if_neg (fun h => c3 (s3.1 h)), if_neg (by omega)]
  ·rw [if_neg (fun h => c2 (s2.1 h)), if_neg (by omega)]
theorem impl_slope (p q : Int) (k : Nat) (hk : 1000 < k) : impl_SlopeOf.f k p q = some (slopeR p q) := by
 unfold impl_SlopeOf.f
 rw [within_eq, within_eq, Option.bind_some, Option.bind_some]
 by_cases h3 : p = 0 ∧ q = 0
 ·obtain ⟨rfl, rfl⟩ := h3
  rw [if_pos rfl, if_pos rfl]
  simp [slopeR]
 ·have key : (if decide (-1000 ≤ p ∧ p ≤ 1000) = true then (if decide (-1000 ≤ q ∧ q ≤ 1000) = true then ((impl_lowest.f k p q).bind fun b => (some (b.1, b.2, true))) else (some (0, 0, false))) else (some (0, 0, false))) = some (slopeR p q) := by
   by_cases h1 : -1000 ≤ p ∧ p ≤ 1000
   ·by_cases h2 : -1000 ≤ q ∧ q ≤ 1000
    ·rw [if_pos (decide_eq_true h1), if_pos (decide_eq_true h2), impl_lowest_eq p q k hk h1 h2 h3, Option.bind_some]
     have := slopeR_ok h1 h2 h3
     congr 1
     rw [← this]
    ·rw [if_pos (decide_eq_true h1), if_neg (by simpa using h2)]
     rw [slopeR_no (fun h => h2 h.2.1)]
   ·rw [if_neg (by simpa using h1)]
    rw [slopeR_no (fun h => h1 h.1)]
  by_cases h0 : p = 0
  ·rw [if_pos h0, if_neg (fun h => h3 ⟨h0, h⟩)]
   exact key
  ·rw [if_neg h0]
   exact key
end Go.Proofs.Ytigcjehokbgclaa.L

namespace Go.Proofs.Ytigcjehokbgclaa.L
open Go.RowKit Go.Proofs.Ytigcjehokbgclaa.P Go.Proofs.Ytigcjehokbgclaa.Help Go.Proofs.YtigcjehokbgclaaW.PrintWords
set_option linter.unusedVariables false
set_option linter.unusedSimpArgs false

def commonR (p q r s : Int) : List S25 :=
 if crossR p q r s = 1 then (if (slopeR (p + r) (q + s)).2.2 = true ∧ (slopeR (p - r) (q - s)).2.2 = true then [⟨(slopeR (p + r) (q + s)).1, (slopeR (p + r) (q + s)).2.1⟩, ⟨(slopeR (p - r) (q - s)).1, (slopeR (p - r) (q - s)).2.1⟩] else []) else []
theorem commonR_len (p q r s : Int) : (commonR p q r s).length ≤ 2 := by
 unfold commonR
 repeat' split
 all_goals simp
theorem spec_common (p q r s : Int) (k : Nat) (hk : 1001 < k) : spec_CommonNeighbours.f k p q r s = some (commonR p q r s) := by
 unfold spec_CommonNeighbours.f commonR
 rw [spec_cross _ _ _ _ _ (by omega), Option.bind_some]
 by_cases h : crossR p q r s = 1
 ·obtain ⟨h1, h2⟩ := crossR_is h
  obtain ⟨hp, hq, _⟩ := isS_true h1
  obtain ⟨hr, hs, _⟩ := isS_true h2
  rw [if_pos h, if_pos h, w_id (a := p + r) (by omega) (by omega), w_id (a := q + s) (by omega) (by omega), w_id (a := p - r) (by omega) (by omega), w_id (a := q - s) (by omega) (by omega), spec_slope _ _ _ hk, spec_slope _ _ _ hk, Option.bind_some, Option.bind_some]
  by_cases h3 : (slopeR (p + r) (q + s)).2.2 = true
  ·by_cases h4 : (slopeR (p - r) (q - s)).2.2 = true
   ·rw [if_pos h3, if_pos h4, if_pos ⟨h3, h4⟩]
   ·rw [if_pos h3, if_neg h4, if_neg (fun h => h4 h.2)]
  ·rw [if_neg h3, if_neg (fun h => h3 h.1)]
 ·rw [if_neg h, if_neg h]
theorem impl_common (p q r s : Int) (k : Nat) (hk : 1001 < k) : impl_CommonNeighbours.f k p q r s = some (commonR p q r s) := by
 unfold impl_CommonNeighbours.f commonR
 rw [impl_crossN _ _ _ _ _ (by omega), Option.bind_some]
 by_cases h : crossR p q r s = 1
 ·obtain ⟨h1, h2⟩ := crossR_is h
  obtain ⟨hp, hq, _⟩ := isS_true h1
  obtain ⟨hr, hs, _⟩ := isS_true h2
  rw [if_pos h, if_pos h, w_id (a := p + r) (by omega) (by omega), w_id (a := q + s) (by omega) (by omega), w_id (a := p - r) (by omega) (by omega), w_id (a := q - s) (by omega) (by omega), impl_slope _ _ _ (by omega), impl_slope _ _ _ (by omega), Option.bind_some, Option.bind_some]
  by_cases h3 : (slopeR (p + r) (q + s)).2.2 = true
  ·by_cases h4 : (slopeR (p - r) (q - s)).2.2 = true
   ·rw [if_pos h3, if_pos h4, if_pos ⟨h3, h4⟩]
   ·rw [if_pos h3, if_neg h4, if_neg (fun h => h4 h.2)]
  ·rw [if_neg h3, if_neg (fun h => h3 h.1)]
 ·rw [if_neg h, if_neg h]
end Go.Proofs.Ytigcjehokbgclaa.L

namespace Go.Proofs.Ytigcjehokbgclaa.L
open Go.RowKit Go.Proofs.Ytigcjehokbgclaa.P Go.Proofs.Ytigcjehokbgclaa.Help Go.Proofs.YtigcjehokbgclaaW.PrintWords
set_option linter.unusedVariables false
set_option linter.unusedSimpArgs false

theorem divmod {a b q r : Int} (hb : 0 < b) (h : r + b * q = a) (h0 : 0 ≤ r) (h1 : r < b) : a / b = q ∧ a % b = r := (Int.ediv_emod_unique hb).2 ⟨h, h0, h1⟩
theorem tdivmod (a b : Int) (hb : 0 < b) : (a.tmod b < 0 → a / b = a.tdiv b - 1 ∧ a % b = a.tmod b + b) ∧ (¬ a.tmod b < 0 → a / b = a.tdiv b ∧ a % b = a.tmod b) := by
 have h1 : b * a.tdiv b + a.tmod b = a := Int.mul_tdiv_add_tmod a b
 have h2 : (a.tmod b).natAbs < b.natAbs := by
  rw [Int.natAbs_tmod]
  exact Nat.mod_lt _ (by omega)
 constructor
 ·intro h
  refine divmod hb ?_ (by omega) (by omega)
  rw [Int.mul_sub, Int.mul_one]
  omega
 ·intro h
  exact divmod hb (by omega) (by omega) (by omega)
theorem down_eq (a b : Int) (hb : 0 < b) (ha : -1000000000000 ≤ a ∧ a ≤ 1000000000000) : spec_l14Down.f a b = some (a / b) := by
 unfold spec_l14Down.f
 have hd : (a.tdiv b).natAbs ≤ a.natAbs := Int.natAbs_tdiv_le_natAbs a b
 obtain ⟨t1, t2⟩ := tdivmod a b hb
 rw [if_neg (by omega)]
 by_cases h : a.tmod b < 0
 ·rw [if_pos h, w_id (a := a.tdiv b) (by omega) (by omega), w_id (by omega) (by omega), (t1 h).1]
 ·rw [if_neg h, w_id (by omega) (by omega), (t2 h).1]
theorem mod_eq (a b : Int) (hb : 0 < b ∧ b ≤ 1000000000000) : impl_mod.f a b = some (a % b) := by
 unfold impl_mod.f
 obtain ⟨t1, t2⟩ := tdivmod a b hb.1
 have h2 : (a.tmod b).natAbs < b.natAbs := by
  rw [Int.natAbs_tmod]
  exact Nat.mod_lt _ (by omega)
 rw [if_neg (by omega)]
 by_cases h : a.tmod b < 0
 ·rw [if_pos h, w_id (by omega) (by omega), (t1 h).2]
 ·rw [if_neg h, (t2 h).2]
/-- The two neighbours of which p / q is the sum, from a denominator on. -/
def par : Nat → Int → Int → Int → List S25 × Bool
 | 0, _, _, _ => ([], false)
 | n + 1, x, p, q => if (p * x) % q = 1 then ([⟨(p * x) / q, x⟩, ⟨p - (p * x) / q, q - x⟩], true) else par n (x + 1) p q
theorem spec_par : ∀ (n k : Nat) (x p q : Int), x + n = q → n < k → 1 ≤ x → -1000 ≤ p ∧ p ≤ 1000 → 2 ≤ q ∧ q ≤ 1000 → spec_ParentsOf.l0 k x p q = some (par n x p q) := by
 intro n
 induction n with
 | zero =>
  intro k x p q hx hk h1 hp hq
  obtain ⟨k, rfl⟩ : ∃ m, k = m + 1 := ⟨k - 1, by omega⟩
  simp only [spec_ParentsOf.l0, par]
  rw [if_neg (by omega)]
 | succ n ih =>
  intro k x p q hx hk h1 hp hq
  obtain ⟨k, rfl⟩ : ∃ m, k = m + 1 := ⟨k - 1, by omega⟩
  have hb := mulb hp.1 hp.2 (show -1000 ≤ x by omega) (show x ≤ 1000 by omega)
  simp only [spec_ParentsOf.l0, par]
  have hdm : q * (p * x / q) + (p * x) % q = p * x := Int.mul_ediv_add_emod (p * x) q
  have hr0 := Int.emod_nonneg (p * x) (show q ≠ 0 by omega)
  have hr1 := Int.emod_lt_of_pos (p * x) (show 0 < q by omega)
  have hfb : -1000001 ≤ p * x / q ∧ p * x / q ≤ 1000001 := by
   have hd : ((p * x).tdiv q).natAbs ≤ (p * x).natAbs := Int.natAbs_tdiv_le_natAbs _ _
   obtain ⟨t1, t2⟩ := tdivmod (p * x) q (by omega)
   by_cases h : (p * x).tmod q < 0
   ·rw [(t1 h).1]; omega
   ·rw [(t2 h).1]; omega
  have hcomm : p * x / q * q = q * (p * x / q) := Int.mul_comm _ _
  rw [if_pos (by omega), w_id (a := p * x) (by omega) (by omega), down_eq _ _ (by omega) (by omega), Option.bind_some, hcomm, w_id (a := q * (p * x / q)) (by omega) (by omega), w_id (a := p * x - q * (p * x / q)) (by omega) (by omega), w_id (a := p - p * x / q) (by omega) (by omega), w_id (a := q - x) (by omega) (by omega), w_id (a := x + 1) (by omega) (by omega)]
  by_cases h : (p * x) % q = 1
  ·rw [if_pos (by omega), if_pos h]
  ·rw [if_neg (by omega), if_neg h, ih k (x + 1) p q (by omega) (by omega) (by omega) hp hq]
theorem impl_par : ∀ (n k : Nat) (x p q : Int), x + n = q → n < k → 1 ≤ x → -1000 ≤ p ∧ p ≤ 1000 → 2 ≤ q ∧ q ≤ 1000 → impl_ParentsOf.l0 k x p q = some (par n x p q) := by
 intro n
 induction n with
 | zero =>
  intro k x p q hx hk h1 hp hq
  obtain ⟨k, rfl⟩ : ∃ m, k = m + 1 := ⟨k - 1, by omega⟩
  simp only [impl_ParentsOf.l0, par]
  rw [if_neg (by omega)]
 | succ n ih =>
  intro k x p q hx hk h1 hp hq
  obtain ⟨k, rfl⟩ : ∃ m, k = m + 1 := ⟨k - 1, by omega⟩
  have hb := mulb hp.1 hp.2 (show -1000 ≤ x by omega) (show x ≤ 1000 by omega)
  simp only [impl_ParentsOf.l0, par]
  have hdm : q * (p * x / q) + (p * x) % q = p * x := Int.mul_ediv_add_emod (p * x) q
  rw [if_pos (by omega), w_id (a := p * x) (by omega) (by omega), w_id (a := p * x - 1) (by omega) (by omega), mod_eq _ _ (by omega), Option.bind_some, w_id (a := x + 1) (by omega) (by omega), if_neg (show ¬ q = 0 by omega)]
  by_cases h : (p * x) % q = 1
  ·have hx1 : p * x - 1 = q * (p * x / q) := by omega
   have h0 : (p * x - 1) % q = 0 := by rw [hx1]; exact Int.mul_emod_right _ _
   have ht : (p * x - 1).tdiv q = p * x / q := by
    conv => lhs; rw [hx1]
    exact Int.mul_tdiv_cancel_left _ (by omega)
   have hfb : -1000001 ≤ p * x / q ∧ p * x / q ≤ 1000001 := by
    have hd : ((p * x - 1).tdiv q).natAbs ≤ (p * x - 1).natAbs := Int.natAbs_tdiv_le_natAbs _ _
    rw [ht] at hd
    omega
   rw [if_pos h0, if_pos h, ht, w_id (a := p * x / q) (by omega) (by omega), w_id (a := p - p * x / q) (by omega) (by omega), w_id (a := q - x) (by omega) (by omega)]
  ·have h0 : ¬ (p * x - 1) % q = 0 := by
    intro h0
    obtain ⟨m, hm⟩ := Int.dvd_of_emod_eq_zero h0
    apply h
    exact (divmod (a := p * x) (b := q) (q := m) (r := 1) (by omega) (by omega) (by omega) (by omega)).2
   rw [if_neg h0, if_neg h, ih k (x + 1) p q (by omega) (by omega) (by omega) hp hq]
def parR (p q : Int) : List S25 × Bool := if isS p q = true ∧ 2 ≤ q then par (q - 1).toNat 1 p q else ([], false)
theorem par_len : ∀ (n : Nat) (x p q : Int), (par n x p q).1.length ≤ 2 := by
 intro n
 induction n with
 | zero => intro x p q; simp [par]
 | succ n ih =>
  intro x p q
  unfold par
  split
  ·simp
  ·exact ih _ _ _
theorem parR_len (p q : Int) : (parR p q).1.length ≤ 2 := by
 unfold parR
 split
 ·exact par_len _ _ _ _
 ·simp
theorem spec_parents (p q : Int) (k : Nat) (hk : 1001 < k) : spec_ParentsOf.f k p q = some (parR p q) := by
 obtain ⟨k, rfl⟩ : ∃ m, k = m + 1 := ⟨k - 1, by omega⟩
 unfold spec_ParentsOf.f parR
 rw [spec_isS _ _ _ (by omega), Option.bind_some]
 simp only [spec_ParentsOf.j0, decide_eq_true_eq, if_true]
 by_cases h : isS p q = true
 ·rw [if_pos h]
  obtain ⟨h1, h2, _⟩ := isS_true h
  by_cases h3 : q < 2
  ·rw [if_pos h3, if_neg (fun h => by omega)]
  ·rw [if_neg h3, if_pos ⟨h, by omega⟩]
   exact spec_par _ k 1 p q (by omega) (by omega) (by omega) h1 (by omega)
 ·rw [if_neg h, if_neg (fun h' => h h'.1)]
theorem impl_parents (p q : Int) (k : Nat) (hk : 1001 < k) : impl_ParentsOf.f k p q = some (parR p q) := by
 obtain ⟨k, rfl⟩ : ∃ m, k = m + 1 := ⟨k - 1, by omega⟩
 unfold impl_ParentsOf.f parR
 rw [impl_isS _ _ _ (by omega), Option.bind_some]
 simp only [impl_ParentsOf.j0, decide_eq_true_eq, if_true]
 by_cases h : isS p q = true
 ·rw [if_pos h]
  obtain ⟨h1, h2, _⟩ := isS_true h
  by_cases h3 : q < 2
  ·rw [if_pos h3, if_neg (fun h => by omega)]
  ·rw [if_neg h3, if_pos ⟨h, by omega⟩]
   exact impl_par _ k 1 p q (by omega) (by omega) (by omega) h1 (by omega)
 ·rw [if_neg h, if_neg (fun h' => h h'.1)]
end Go.Proofs.Ytigcjehokbgclaa.L

namespace Go.Proofs.Ytigcjehokbgclaa.L
open Go.RowKit Go.Proofs.Ytigcjehokbgclaa.P Go.Proofs.Ytigcjehokbgclaa.Help Go.Proofs.YtigcjehokbgclaaW.PrintWords
set_option linter.unusedVariables false
set_option linter.unusedSimpArgs false

def sm (x : Int) : Bool := decide (-1000 ≤ x ∧ x ≤ 1000)
theorem fits_l0 (xs : List Int) (hx : xs.length ≤ 1000000) : ∀ (d k i : Nat), i + d = xs.length → d < k → spec_l11Fits.l0 k xs (i : Int) = some ((xs.drop i).all sm) := by
 intro d
 induction d with
 | zero =>
  intro k i hi hk
  obtain ⟨k, rfl⟩ : ∃ m, k = m + 1 := ⟨k - 1, by omega⟩
  simp only [spec_l11Fits.l0]
  rw [if_neg (by omega), List.drop_of_length_le (by omega)]
  rfl
 | succ d ih =>
  intro k i hi hk
  obtain ⟨k, rfl⟩ : ∃ m, k = m + 1 := ⟨k - 1, by omega⟩
  have hlt : i < xs.length := by omega
  simp only [spec_l11Fits.l0]
  rw [if_pos (by omega), if_pos (by omega), l1In_eq, Option.bind_some, w_id (by omega) (by omega), show ((i : Int) + 1) = ((i + 1 : Nat) : Int) by omega, ih k (i + 1) (by omega) (by omega), List.drop_eq_getElem_cons hlt, List.all_cons, rd_nat xs i hlt]
  unfold sm
  by_cases h : -1000 ≤ xs[i] ∧ xs[i] ≤ 1000 <;> simp [h]
/-- A matrix: four small numbers, the determinant 1. -/
def isM (a b c d : Int) : Bool := decide ((-1000 ≤ a ∧ a ≤ 1000) ∧ (-1000 ≤ b ∧ b ≤ 1000) ∧ (-1000 ≤ c ∧ c ≤ 1000) ∧ (-1000 ≤ d ∧ d ≤ 1000) ∧ a * d - b * c = 1)
theorem isM_true {a b c d : Int} (h : isM a b c d = true) : (-1000 ≤ a ∧ a ≤ 1000) ∧ (-1000 ≤ b ∧ b ≤ 1000) ∧ (-1000 ≤ c ∧ c ≤ 1000) ∧ (-1000 ≤ d ∧ d ≤ 1000) ∧ a * d - b * c = 1 := of_decide_eq_true h
theorem det_w {a b c d : Int} (ha : -1000 ≤ a ∧ a ≤ 1000) (hb : -1000 ≤ b ∧ b ≤ 1000) (hc : -1000 ≤ c ∧ c ≤ 1000) (hd : -1000 ≤ d ∧ d ≤ 1000) : wrap64 ((wrap64 (a * d)) - (wrap64 (b * c))) = a * d - b * c := by
 have h1 := mulb ha.1 ha.2 hd.1 hd.2
 have h2 := mulb hb.1 hb.2 hc.1 hc.2
 rw [w_id (a := a * d) (by omega) (by omega), w_id (a := b * c) (by omega) (by omega), w_id (by omega) (by omega)]
theorem four_all (a b c d : Int) : ([a, b, c, d].all sm) = decide ((-1000 ≤ a ∧ a ≤ 1000) ∧ (-1000 ≤ b ∧ b ≤ 1000) ∧ (-1000 ≤ c ∧ c ≤ 1000) ∧ (-1000 ≤ d ∧ d ≤ 1000)) := by
 rw [Bool.eq_iff_iff]
 simp [List.all_cons, sm]
theorem isM_of {a b c d : Int} {t : Bool} (ht : t = decide ((-1000 ≤ a ∧ a ≤ 1000) ∧ (-1000 ≤ b ∧ b ≤ 1000) ∧ (-1000 ≤ c ∧ c ≤ 1000) ∧ (-1000 ≤ d ∧ d ≤ 1000))) :
  (if t = true then (some ((wrap64 ((wrap64 (a * d)) - (wrap64 (b * c)))) == 1)) else (some false)) = some (isM a b c d) := by
 subst ht
 by_cases h : (-1000 ≤ a ∧ a ≤ 1000) ∧ (-1000 ≤ b ∧ b ≤ 1000) ∧ (-1000 ≤ c ∧ c ≤ 1000) ∧ (-1000 ≤ d ∧ d ≤ 1000)
 ·rw [if_pos (decide_eq_true h), det_w h.1 h.2.1 h.2.2.1 h.2.2.2]
  unfold isM
  congr 1
  rw [Bool.eq_iff_iff]
  simp [h]
 ·rw [if_neg (by simpa using h)]
  unfold isM
  congr 1
  symm
  rw [decide_eq_false_iff_not]
  rintro ⟨h1, h2, h3, h4, _⟩
  exact h ⟨h1, h2, h3, h4⟩
theorem spec_isM (a b c d : Int) (k : Nat) (hk : 4 < k) : spec_IsMatrix.f k a b c d = some (isM a b c d) := by
 unfold spec_IsMatrix.f spec_l11Fits.f
 rw [show (0 : Int) = ((0 : Nat) : Int) from rfl, fits_l0 _ (by simp) 4 k 0 (by simp) hk, Option.bind_some, List.drop_zero]
 exact isM_of (four_all a b c d)
end Go.Proofs.Ytigcjehokbgclaa.L

namespace Go.Proofs.Ytigcjehokbgclaa.L
open Go.RowKit Go.Proofs.Ytigcjehokbgclaa.P Go.Proofs.Ytigcjehokbgclaa.Help Go.Proofs.YtigcjehokbgclaaW.PrintWords
set_option linter.unusedVariables false
set_option linter.unusedSimpArgs false

/-- The product of two matrices, if it is one. -/
def timesR (a b c d e f g h : Int) : Int × Int × Int × Int × Bool :=
 if isM a b c d = true ∧ isM e f g h = true ∧ isM (a * e + b * g) (a * f + b * h) (c * e + d * g) (c * f + d * h) = true then (a * e + b * g, a * f + b * h, c * e + d * g, c * f + d * h, true) else (0, 0, 0, 0, false)
theorem dot_w {a b e g : Int} (ha : -1000 ≤ a ∧ a ≤ 1000) (hb : -1000 ≤ b ∧ b ≤ 1000) (he : -1000 ≤ e ∧ e ≤ 1000) (hg : -1000 ≤ g ∧ g ≤ 1000) : wrap64 ((wrap64 (a * e)) + (wrap64 (b * g))) = a * e + b * g := by
 have h1 := mulb ha.1 ha.2 he.1 he.2
 have h2 := mulb hb.1 hb.2 hg.1 hg.2
 rw [w_id (a := a * e) (by omega) (by omega), w_id (a := b * g) (by omega) (by omega), w_id (by omega) (by omega)]
theorem spec_prod {a b c d e f g h : Int} (ha : -1000 ≤ a ∧ a ≤ 1000) (hb : -1000 ≤ b ∧ b ≤ 1000) (hc : -1000 ≤ c ∧ c ≤ 1000) (hd : -1000 ≤ d ∧ d ≤ 1000) (he : -1000 ≤ e ∧ e ≤ 1000) (hf : -1000 ≤ f ∧ f ≤ 1000) (hg : -1000 ≤ g ∧ g ≤ 1000) (hh : -1000 ≤ h ∧ h ≤ 1000) :
  spec_l13Times.f a b c d e f g h = some (a * e + b * g, a * f + b * h, c * e + d * g, c * f + d * h) := by
 unfold spec_l13Times.f
 rw [dot_w ha hb he hg, dot_w ha hb hf hh, dot_w hc hd he hg, dot_w hc hd hf hh]
theorem spec_times (a b c d e f g h : Int) (k : Nat) (hk : 4 < k) : spec_TimesMatrix.f k a b c d e f g h = some (timesR a b c d e f g h) := by
 unfold spec_TimesMatrix.f timesR
 rw [spec_isM _ _ _ _ _ hk, spec_isM _ _ _ _ _ hk, Option.bind_some, Option.bind_some]
 by_cases h1 : isM a b c d = true
 ·rw [if_pos h1]
  by_cases h2 : isM e f g h = true
  ·rw [if_pos h2]
   obtain ⟨ha, hb, hc, hd, _⟩ := isM_true h1
   obtain ⟨he, hf, hg, hh, _⟩ := isM_true h2
   rw [spec_prod ha hb hc hd he hf hg hh]
   simp only [Option.bind_some]
   rw [spec_isM _ _ _ _ _ hk, Option.bind_some]
   simp only [h1, h2, true_and]
   split <;> rfl
  ·rw [if_neg h2, if_neg (fun h => h2 h.2.1)]
 ·rw [if_neg h1, if_neg (fun h => h1 h.1)]
end Go.Proofs.Ytigcjehokbgclaa.L

namespace Go.Proofs.Ytigcjehokbgclaa.L
open Go.RowKit Go.Proofs.Ytigcjehokbgclaa.P Go.Proofs.Ytigcjehokbgclaa.Help Go.Proofs.YtigcjehokbgclaaW.PrintWords
set_option linter.unusedVariables false
set_option linter.unusedSimpArgs false

def moveR (a b c d p q : Int) : Int × Int × Bool := if isM a b c d = true ∧ isS p q = true then slopeR (a * p + b * q) (c * p + d * q) else (0, 0, false)
theorem spec_move (a b c d p q : Int) (k : Nat) (hk : 1001 < k) : spec_MoveSlope.f k a b c d p q = some (moveR a b c d p q) := by
 unfold spec_MoveSlope.f moveR
 rw [spec_isM _ _ _ _ _ (by omega), spec_isS _ _ _ (by omega), Option.bind_some, Option.bind_some]
 by_cases h : isM a b c d = true
 ·rw [if_pos h]
  by_cases h2 : isS p q = true
  ·obtain ⟨ha, hb, hc, hd, _⟩ := isM_true h
   obtain ⟨hp, hq, _⟩ := isS_true h2
   rw [if_pos h2, if_pos ⟨h, h2⟩, dot_w ha hb hp (by omega), dot_w hc hd hp (by omega), spec_slope _ _ _ hk]
   rfl
  ·rw [if_neg h2, if_neg (fun h => h2 h.2)]
 ·rw [if_neg h, if_neg (fun h' => h h'.1)]
end Go.Proofs.Ytigcjehokbgclaa.L


namespace Go.Proofs.Ytigcjehokbgclaa.L
open Go.RowKit Go.Proofs.Ytigcjehokbgclaa.P Go.Proofs.Ytigcjehokbgclaa.Help Go.Proofs.YtigcjehokbgclaaW.PrintWords
set_option linter.unusedVariables false
set_option linter.unusedSimpArgs false
/-- A vector without a common divisor is a slope, or its other side is. -/
theorem slope_prim {p q : Int} (hp : -1000 ≤ p ∧ p ≤ 1000) (hq : -1000 ≤ q ∧ q ≤ 1000) (hg : Int.gcd p q = 1) : ∃ e : Int, (e = 1 ∨ e = -1) ∧ slopeR p q = (e * p, e * q, true) ∧ isS (e * p) (e * q) = true := by
 have h0 : ¬ (p = 0 ∧ q = 0) := by
  rintro ⟨rfl, rfl⟩
  revert hg
  decide
 rw [slopeR_yes ⟨hp, hq, h0⟩, hg]
 have key : ∀ e : Int, (e = 1 ∨ e = -1) → 0 ≤ e * q → (e * q = 0 → 0 ≤ e * p) → isS (e * p) (e * q) = true := by
  intro e he h1 h2
  unfold isS
  apply decide_eq_true
  have b1 : (e * p).natAbs = p.natAbs := by rcases he with rfl | rfl <;> simp
  have b2 : (e * q).natAbs = q.natAbs := by rcases he with rfl | rfl <;> simp
  refine ⟨by omega, by omega, ?_, ?_⟩
  ·unfold Int.gcd at *
   rw [b1, b2]
   exact hg
  ·intro h3
   have h4 : q = 0 := by omega
   subst h4
   have h5 : p.natAbs = 1 := by simpa [Int.gcd] using hg
   have := h2 h3
   omega
 by_cases c : q < 0 ∨ (q = 0 ∧ p < 0)
 ·rw [if_pos c]
  refine ⟨-1, .inr rfl, ?_, key (-1) (.inr rfl) (by omega) (by omega)⟩
  simp
 ·rw [if_neg c]
  refine ⟨1, .inl rfl, ?_, key 1 (.inl rfl) (by omega) (by omega)⟩
  simp
theorem slope_self {p q : Int} (h : isS p q = true) : slopeR p q = (p, q, true) := by
 obtain ⟨h1, h2, h3, h4⟩ := isS_true h
 have h0 : ¬ (p = 0 ∧ q = 0) := by
  rintro ⟨rfl, rfl⟩
  have := h4 rfl
  omega
 rw [slopeR_yes ⟨h1, by omega, h0⟩, h3, if_neg (by omega)]
 simp
/-- A matrix moves a slope to a slope, or to its other side. -/
theorem move_facts {a b c d p q : Int} (h : (moveR a b c d p q).2.2 = true) : a * d - b * c = 1 ∧ isS p q = true ∧ isS (moveR a b c d p q).1 (moveR a b c d p q).2.1 = true ∧ ∃ e : Int, (e = 1 ∨ e = -1) ∧ (moveR a b c d p q).1 = e * (a * p + b * q) ∧ (moveR a b c d p q).2.1 = e * (c * p + d * q) := by
 unfold moveR at *
 split at h
 ·rename_i hm
  rw [if_pos hm]
  have hd := (isM_true hm.1).2.2.2.2
  refine ⟨hd, hm.2, ?_⟩
  have hg : Int.gcd (a * p + b * q) (c * p + d * q) = 1 := by
   have h1 : (Int.gcd (a * p + b * q) (c * p + d * q) : Int) ∣ (a * p + b * q) := Int.gcd_dvd_left ..
   have h2 : (Int.gcd (a * p + b * q) (c * p + d * q) : Int) ∣ (c * p + d * q) := Int.gcd_dvd_right ..
   have e1 : d * (a * p + b * q) - b * (c * p + d * q) = p := by
    have : d * (a * p + b * q) - b * (c * p + d * q) = (a * d - b * c) * p := by grind
    rw [this, hd, Int.one_mul]
   have e2 : a * (c * p + d * q) - c * (a * p + b * q) = q := by
    have : a * (c * p + d * q) - c * (a * p + b * q) = (a * d - b * c) * q := by grind
    rw [this, hd, Int.one_mul]
   have d1 := Int.dvd_sub (Int.dvd_mul_of_dvd_right (b := d) h1) (Int.dvd_mul_of_dvd_right (b := b) h2)
   have d2 := Int.dvd_sub (Int.dvd_mul_of_dvd_right (b := a) h2) (Int.dvd_mul_of_dvd_right (b := c) h1)
   rw [e1] at d1
   rw [e2] at d2
   have := Int.dvd_coe_gcd d1 d2
   rw [(isS_true hm.2).2.2.1] at this
   have h3 := Int.natAbs_dvd_natAbs.2 this
   simpa using h3
  by_cases c0 : (-1000 ≤ a * p + b * q ∧ a * p + b * q ≤ 1000) ∧ (-1000 ≤ c * p + d * q ∧ c * p + d * q ≤ 1000) ∧ ¬ (a * p + b * q = 0 ∧ c * p + d * q = 0)
  ·obtain ⟨e, he, e1, e2⟩ := slope_prim c0.1 c0.2.1 hg
   rw [e1]
   exact ⟨e2, e, he, rfl, rfl⟩
  ·rw [slopeR_no c0] at h
   cases h
 ·cases h
end Go.Proofs.Ytigcjehokbgclaa.L

namespace Go.Proofs.Ytigcjehokbgclaa.L
open Go.RowKit Go.Proofs.Ytigcjehokbgclaa.P Go.Proofs.Ytigcjehokbgclaa.Help Go.Proofs.YtigcjehokbgclaaW.PrintWords
set_option linter.unusedVariables false
set_option linter.unusedSimpArgs false
/-- The distance, -1 where one is no slope. -/
def distR (p q r s : Int) : Int := if isS p q = true ∧ isS r s = true then dS p q r s else -1
theorem impl_dist (p q r s : Int) (k : Nat) (hk : 10000002 ≤ k) : impl_SlopeDistance.f k p q r s = some (distR p q r s) := by
 unfold impl_SlopeDistance.f distR
 rw [impl_isS _ _ k (by omega), Option.bind_some, impl_isS _ _ k (by omega), Option.bind_some]
 by_cases h1 : isS p q = true
 ·by_cases h2 : isS r s = true
  ·rw [if_pos h1, if_pos h2, if_pos ⟨h1, h2⟩, (dist_f h1 h2 k hk).1]
   rfl
  ·rw [if_pos h1, if_neg h2, if_neg (fun h => h2 h.2)]
 ·rw [if_neg h1, if_neg (fun h => h1 h.1)]
theorem spec_dist (p q r s : Int) (k : Nat) (hk : 10000002 ≤ k) : spec_SlopeDistance.f k p q r s = some (distR p q r s) := by
 unfold distR
 by_cases h1 : isS p q = true
 ·by_cases h2 : isS r s = true
  ·rw [if_pos ⟨h1, h2⟩, (dist_f h1 h2 k hk).2.1]
  ·rw [if_neg (fun h => h2 h.2)]
   obtain ⟨k, rfl⟩ : ∃ m, k = m + 1 := ⟨k - 1, by omega⟩
   unfold spec_SlopeDistance.f
   rw [spec_isS _ _ _ (by omega), Option.bind_some, spec_isS _ _ _ (by omega), Option.bind_some, if_pos h1, Bool.eq_false_iff.2 h2]
   simp [spec_SlopeDistance.j0]
 ·rw [if_neg (fun h => h1 h.1)]
  obtain ⟨k, rfl⟩ : ∃ m, k = m + 1 := ⟨k - 1, by omega⟩
  unfold spec_SlopeDistance.f
  rw [spec_isS _ _ _ (by omega), Option.bind_some, if_neg h1]
  simp [spec_SlopeDistance.j0]
theorem distR_symm (p q r s : Int) : distR p q r s = distR r s p q := by
 unfold distR
 by_cases h1 : isS p q = true
 ·by_cases h2 : isS r s = true
  ·rw [if_pos ⟨h1, h2⟩, if_pos ⟨h2, h1⟩, dS_symm h1 h2]
  ·rw [if_neg (fun h => h2 h.2), if_neg (fun h => h2 h.1)]
 ·rw [if_neg (fun h => h1 h.1), if_neg (fun h => h1 h.2)]
theorem distR_is {p q r s : Int} (h : 0 ≤ distR p q r s) : isS p q = true ∧ isS r s = true ∧ distR p q r s = dS p q r s := by
 unfold distR at *
 split at h
 ·rename_i h1
  rw [if_pos h1]
  exact ⟨h1.1, h1.2, rfl⟩
 ·omega
theorem distR_of {p q r s : Int} (h1 : isS p q = true) (h2 : isS r s = true) : distR p q r s = dS p q r s ∧ 0 ≤ dS p q r s ∧ dS p q r s ≤ 2000000 := by
 have := dist_f h1 h2 10000002 (by decide)
 exact ⟨if_pos ⟨h1, h2⟩, this.2.2.1, this.2.2.2.1⟩
theorem cross_of {p q r s : Int} (h1 : isS p q = true) (h2 : isS r s = true) {n : Nat} (h : (p * s - q * r).natAbs = n) : crossR p q r s = (n : Int) := by
 unfold crossR
 rw [if_pos ⟨h1, h2⟩, h]
theorem common_facts {p q r s : Int} {a b : S25} (h : commonR p q r s = [a, b]) : crossR a.f0 a.f1 b.f0 b.f1 = 2 ∧ crossR a.f0 a.f1 p q = 1 ∧ crossR b.f0 b.f1 r s = 1 := by
 unfold commonR at h
 split at h
 ·rename_i hc
  split at h
  ·rename_i hs
   obtain ⟨h1, h2⟩ := crossR_is hc
   have hn := nb_cross hc
   have ha : (p * s - q * r).natAbs = 1 := by
    unfold crossR at hc
    rw [if_pos ⟨h1, h2⟩] at hc
    omega
   obtain ⟨b1, b2, _⟩ := isS_true h1
   obtain ⟨b3, b4, _⟩ := isS_true h2
   have bd : ∀ x y, (slopeR x y).2.2 = true → (-1000 ≤ x ∧ x ≤ 1000) ∧ (-1000 ≤ y ∧ y ≤ 1000) := by
    intro x y hx
    by_cases c : (-1000 ≤ x ∧ x ≤ 1000) ∧ (-1000 ≤ y ∧ y ≤ 1000) ∧ ¬ (x = 0 ∧ y = 0)
    ·exact ⟨c.1, c.2.1⟩
    ·rw [slopeR_no c] at hx
     cases hx
   have g1 : Int.gcd (p + r) (q + s) = 1 := (det_gcd (p := p) (q := q) (u := p + r) (v := q + s) (by
    have : p * (q + s) - (p + r) * q = p * s - r * q := by grind
    rw [this]
    exact hn)).2
   have g2 : Int.gcd (p - r) (q - s) = 1 := (det_gcd (p := p) (q := q) (u := p - r) (v := q - s) (by
    have : p * (q - s) - (p - r) * q = -(p * s - r * q) := by grind
    rw [this]
    unfold Nb at hn
    omega)).2
   obtain ⟨e, he, ee, ie⟩ := slope_prim (bd _ _ hs.1).1 (bd _ _ hs.1).2 g1
   obtain ⟨f, hf, ef, ie2⟩ := slope_prim (bd _ _ hs.2).1 (bd _ _ hs.2).2 g2
   rw [ee, ef] at h
   obtain ⟨rfl, rfl⟩ : (⟨e * (p + r), e * (q + s)⟩ : S25) = a ∧ (⟨f * (p - r), f * (q - s)⟩ : S25) = b := by
    simpa using h
   refine ⟨cross_of ie ie2 ?_, cross_of ie h1 ?_, cross_of ie2 h2 ?_⟩
   ·have : e * (p + r) * (f * (q - s)) - e * (q + s) * (f * (p - r)) = (e * f) * (-2 * (p * s - q * r)) := by grind
    rw [this, Int.natAbs_mul, Int.natAbs_mul, Int.natAbs_mul, ha]
    rcases he with rfl | rfl <;> rcases hf with rfl | rfl <;> rfl
   ·have : e * (p + r) * q - e * (q + s) * p = -e * (p * s - q * r) := by grind
    rw [this, Int.natAbs_mul, ha]
    rcases he with rfl | rfl <;> rfl
   ·have : f * (p - r) * s - f * (q - s) * r = f * (p * s - q * r) := by grind
    rw [this, Int.natAbs_mul, ha]
    rcases hf with rfl | rfl <;> rfl
  ·cases h
 ·cases h
theorem par_facts : ∀ (n : Nat) (x p q : Int), 1 ≤ x → x + n = q → -1000 ≤ p ∧ p ≤ 1000 → (par n x p q).2 = true → ∃ k y : Int, 1 ≤ y ∧ y < q ∧ p * y = q * k + 1 ∧ (par n x p q).1 = [⟨k, y⟩, ⟨p - k, q - y⟩]
 | 0, x, p, q, hx, hn, hp, h => by simp [par] at h
 | n + 1, x, p, q, hx, hn, hp, h => by
  rw [par] at h ⊢
  by_cases c : (p * x) % q = 1
  ·rw [if_pos c]
   refine ⟨(p * x) / q, x, hx, by omega, ?_, rfl⟩
   have := Int.emod_add_mul_ediv (p * x) q
   omega
  ·rw [if_neg c] at h ⊢
   exact par_facts n (x + 1) p q (by omega) (by omega) hp h
theorem par_bd {p q k y : Int} (hp : -1000 ≤ p ∧ p ≤ 1000) (hy : 1 ≤ y ∧ y < q) (h : p * y = q * k + 1) : -1000 ≤ k ∧ k ≤ 1000 := by
 have h1 : p * y ≤ 1000 * y := Int.mul_le_mul_of_nonneg_right (by omega) (by omega)
 have h2 : -1000 * y ≤ p * y := Int.mul_le_mul_of_nonneg_right (by omega) (by omega)
 constructor
 ·rcases Int.lt_or_le k (-1000) with c | c
  ·have : q * k ≤ q * (-1001) := Int.mul_le_mul_of_nonneg_left (by omega) (by omega)
   omega
  ·exact c
 ·rcases Int.lt_or_le 1000 k with c | c
  ·have : q * 1001 ≤ q * k := Int.mul_le_mul_of_nonneg_left (by omega) (by omega)
   omega
  ·exact c
theorem par_ok {p q : Int} (h : (parR p q).2 = true) : ∃ a b : S25, (parR p q).1 = [a, b] ∧ isS p q = true ∧ crossR a.f0 a.f1 b.f0 b.f1 = 1 ∧ a.f0 + b.f0 = p ∧ a.f1 + b.f1 = q := by
 unfold parR at *
 split at h
 ·rename_i hs
  rw [if_pos hs]
  obtain ⟨b1, b2, b3, b4⟩ := isS_true hs.1
  obtain ⟨k, y, h1, h2, h3, h4⟩ := par_facts _ 1 p q (by decide) (by omega) b1 h
  refine ⟨_, _, h4, hs.1, ?_, by dsimp only; omega, by dsimp only; omega⟩
  dsimp only
  have hk := par_bd b1 ⟨h1, h2⟩ h3
  have h5 : p * (q - y) = q * (p - k - 1) + (q - 1) := by
   rw [Int.mul_sub, h3, Int.mul_sub, Int.mul_sub, Int.mul_comm p q]
   omega
  have hk2 : -1000 ≤ p - k ∧ p - k ≤ 1000 := by
   have g1 : p * (q - y) ≤ 1000 * (q - y) := Int.mul_le_mul_of_nonneg_right (by omega) (by omega)
   have g2 : -1000 * (q - y) ≤ p * (q - y) := Int.mul_le_mul_of_nonneg_right (by omega) (by omega)
   constructor
   ·rcases Int.lt_or_le (p - k) (-1000) with c | c
    ·have : q * (p - k - 1) ≤ q * (-1002) := Int.mul_le_mul_of_nonneg_left (by omega) (by omega)
     omega
    ·exact c
   ·rcases Int.lt_or_le 1000 (p - k) with c | c
    ·have : q * 1000 ≤ q * (p - k - 1) := Int.mul_le_mul_of_nonneg_left (by omega) (by omega)
     omega
    ·exact c
  have hd : k * (q - y) - (p - k) * y = -1 := by
   have : k * (q - y) - (p - k) * y = q * k - p * y := by grind
   omega
  obtain ⟨g1, g2⟩ := det_gcd (p := k) (q := y) (u := p - k) (v := q - y) (.inr hd)
  have i1 : isS k y = true := decide_eq_true ⟨hk, by omega, g1, by omega⟩
  have i2 : isS (p - k) (q - y) = true := decide_eq_true ⟨hk2, by omega, g2, by omega⟩
  refine cross_of i1 i2 (n := 1) ?_
  have : k * (q - y) - y * (p - k) = -1 := by rw [Int.mul_comm y]; exact hd
  rw [this]
  rfl
 ·cases h
theorem sum_spec {a b p q : Int} {c d : Int} (h : crossR a b c d = 1) (h1 : a + c = p) (h2 : b + d = q) (hs : isS p q = true) (k : Nat) (hk : 1001 < k) : spec_SumSlope.f k a b c d = some (p, q, true) := by
 obtain ⟨b1, b2, _⟩ := isS_true hs
 unfold spec_SumSlope.f
 rw [spec_cross _ _ _ _ k (by omega), Option.bind_some, if_pos h, h1, h2, w_id (by omega) (by omega), w_id (by omega) (by omega), spec_slope _ _ k hk, slope_self hs]
 rfl
end Go.Proofs.Ytigcjehokbgclaa.L

namespace Go.Proofs.Ytigcjehokbgclaa.L
open Go Go.RowKit Go.Proofs.Ytigcjehokbgclaa.P Go.Proofs.Ytigcjehokbgclaa.Help Go.Proofs.YtigcjehokbgclaaW.PrintWords
set_option linter.unusedVariables false
set_option linter.unusedSimpArgs false
theorem and255 (x : Int) : 0 ≤ bits .and .i64 x 255 ∧ bits .and .i64 x 255 ≤ 255 := by
 have h : ∀ n : Nat, n ≤ 255 → 0 ≤ IntKind.i64.wrap (n : Int) ∧ IntKind.i64.wrap (n : Int) ≤ 255 := by
  intro n hn
  simp [IntKind.wrap, IntKind.signed, IntKind.bits]
  split <;> omega
 unfold bits
 refine h _ ?_
 show (BitVec.ofInt IntKind.i64.bits x &&& BitVec.ofInt IntKind.i64.bits 255).toNat ≤ 255
 rw [BitVec.toNat_and]
 refine Nat.le_trans Nat.and_le_right ?_
 decide
/-- A cursor over bytes. -/
def Cur (b : List Int) (i : Int) : Prop := 0 ≤ i ∧ i ≤ 4000000000 ∧ (b.length : Int) ≤ 1048576
theorem Cur.start {b : List Int} (h : b.length ≤ 1048576) : Cur b 0 := ⟨by decide, by decide, by omega⟩
theorem byte_ok {b : List Int} {i : Int} (h : Int) (hc : Cur b i) : ∃ x i' h', spec_l1Byte.f b i h = some (x, i', h') ∧ 0 ≤ x ∧ x ≤ 255 ∧ Cur b i' := by
 obtain ⟨c1, c2, c3⟩ := hc
 unfold spec_l1Byte.f
 by_cases h1 : i < (b.length : Int)
 ·rw [if_pos h1, if_pos c1]
  refine ⟨_, _, _, rfl, (and255 _).1, (and255 _).2, ?_⟩
  rw [w_id (by omega) (by omega)]
  exact ⟨by omega, by omega, c3⟩
 ·rw [if_neg h1]
  exact ⟨_, _, _, rfl, (and255 _).1, (and255 _).2, c1, c2, c3⟩
theorem tmod_ok {x n : Int} (hx : 0 ≤ x) (hn : 0 < n) : 0 ≤ Int.tmod x n ∧ Int.tmod x n < n := by
 rw [Int.tmod_eq_emod_of_nonneg hx]
 exact ⟨Int.emod_nonneg _ (by omega), Int.emod_lt_of_pos _ hn⟩
theorem below_ok {b : List Int} {i : Int} (h n : Int) (hc : Cur b i) (hn : 0 < n) : ∃ x i' h', spec_l1Below.f b i h n = some (x, i', h') ∧ 0 ≤ x ∧ x < n ∧ Cur b i' := by
 unfold spec_l1Below.f
 rw [if_neg (by omega)]
 by_cases h1 : n ≤ 256
 ·rw [if_pos h1]
  obtain ⟨x, i', h', e, x0, x1, c'⟩ := byte_ok h hc
  rw [e, Option.bind_some, if_neg (by omega)]
  have := tmod_ok x0 hn
  exact ⟨_, _, _, rfl, this.1, this.2, c'⟩
 ·rw [if_neg h1]
  obtain ⟨x, i1, h1', e1, x0, x1, c1⟩ := byte_ok h hc
  obtain ⟨y, i2, h2', e2, y0, y1, c2⟩ := byte_ok h1' c1
  obtain ⟨z, i3, h3', e3, z0, z1, c3⟩ := byte_ok h2' c2
  obtain ⟨v, i4, h4', e4, v0, v1, c4⟩ := byte_ok h3' c3
  rw [e1, Option.bind_some]
  dsimp only
  rw [e2, Option.bind_some]
  dsimp only
  rw [e3, Option.bind_some]
  dsimp only
  rw [e4, Option.bind_some]
  dsimp only
  rw [if_neg (by omega), w_id (a := x * 16777216) (by omega) (by omega), w_id (a := y * 65536) (by omega) (by omega), w_id (a := z * 256) (by omega) (by omega), w_id (a := x * 16777216 + y * 65536) (by omega) (by omega), w_id (a := x * 16777216 + y * 65536 + z * 256) (by omega) (by omega), w_id (by omega) (by omega)]
  have := tmod_ok (show 0 ≤ x * 16777216 + y * 65536 + z * 256 + v by omega) hn
  exact ⟨_, _, _, rfl, this.1, this.2, c4⟩
theorem once_ok {b : List Int} {i : Int} (h n : Int) (hc : Cur b i) (hn : 0 < n) : ∃ x i' h', spec_l1Once.f b i h n = some (x, i', h') ∧ Cur b i' := by
 obtain ⟨x, i', h', e, _, _, c'⟩ := below_ok h n hc hn
 unfold spec_l1Once.f
 rw [e]
 exact ⟨_, _, _, rfl, c'⟩
theorem rd_mem {l : List Int} {x : Int} (h0 : 0 ≤ x) (h1 : x < (l.length : Int)) : rd l x ∈ l := by
 obtain ⟨n, rfl⟩ := Int.eq_ofNat_of_zero_le h0
 rw [rd_nat l n (by omega)]
 exact List.getElem_mem _
theorem pickInt_ok {b : List Int} {i : Int} (h : Int) (l : List Int) (hc : Cur b i) (hl : 0 < l.length) : ∃ x i' h', spec_l1PickInt.f b i h l = some (x, i', h') ∧ x ∈ l ∧ Cur b i' := by
 obtain ⟨x, i', h', e, x0, x1, c'⟩ := below_ok h (l.length : Int) hc (by omega)
 unfold spec_l1PickInt.f
 rw [e, Option.bind_some, if_pos x0, if_pos x1]
 exact ⟨_, _, _, rfl, rd_mem x0 x1, c'⟩
theorem rdOf_mem {α : Type} {d : α} {l : List α} {x : Int} (h0 : 0 ≤ x) (h1 : x < (l.length : Int)) : rdOf d l x ∈ l := by
 obtain ⟨n, rfl⟩ := Int.eq_ofNat_of_zero_le h0
 have hn : n < l.length := by omega
 unfold rdOf
 simp [List.getD_eq_getElem?_getD, List.getElem?_eq_getElem hn]
theorem pick_ok {b : List Int} {i : Int} (h : Int) (l : List ByteArray) (hc : Cur b i) (hl : 0 < l.length) : ∃ x i' h', spec_l1Pick.f b i h l = some (x, i', h') ∧ x ∈ l ∧ Cur b i' := by
 obtain ⟨x, i', h', e, x0, x1, c'⟩ := below_ok h (l.length : Int) hc (by omega)
 unfold spec_l1Pick.f
 rw [e, Option.bind_some, if_pos x0, if_pos x1]
 exact ⟨_, _, _, rfl, rdOf_mem x0 x1, c'⟩
theorem bit_ok (x : Bool) : spec_l1Bit.f x = some (if x = true then 1 else 0) := by
 unfold spec_l1Bit.f
 split <;> rfl
theorem new_l0 (l : List Int) (hl : l.length ≤ 1048576) : ∀ (d k : Nat) (h i : Int), i + d = 4000 → 0 ≤ i → d < k → ∃ h', spec_l1New.l0 k l h i = some (l, 0, h')
 | 0, k, h, i, hi, h0, hk => by
  obtain ⟨k, rfl⟩ : ∃ m, k = m + 1 := ⟨k - 1, by omega⟩
  simp only [spec_l1New.l0]
  by_cases c : i < (l.length : Int)
  ·rw [if_pos c, if_neg (by omega)]; exact ⟨_, rfl⟩
  ·rw [if_neg c]; exact ⟨_, rfl⟩
 | d + 1, k, h, i, hi, h0, hk => by
  obtain ⟨k, rfl⟩ : ∃ m, k = m + 1 := ⟨k - 1, by omega⟩
  simp only [spec_l1New.l0]
  by_cases c : i < (l.length : Int)
  ·rw [if_pos c, if_pos (by omega), if_pos h0, w_id (a := i + 1) (by omega) (by omega)]
   exact new_l0 l hl d k _ (i + 1) (by omega) (by omega) (by omega)
  ·rw [if_neg c]; exact ⟨_, rfl⟩
theorem new_ok (l : List Int) (hl : l.length ≤ 1048576) (k : Nat) (hk : 4000 < k) : ∃ h', spec_l1New.f k l = some (l, 0, h') := by
 unfold spec_l1New.f
 exact new_l0 l hl 4000 k _ 0 (by omega) (by omega) hk
end Go.Proofs.Ytigcjehokbgclaa.L

namespace Go.Proofs.Ytigcjehokbgclaa.L
open Go Go.RowKit Go.Proofs.Ytigcjehokbgclaa.P Go.Proofs.Ytigcjehokbgclaa.Help Go.Proofs.YtigcjehokbgclaaW.PrintWords
set_option linter.unusedVariables false
set_option linter.unusedSimpArgs false
theorem draw12_ok {b : List Int} {i : Int} (h : Int) (hc : Cur b i) (k : Nat) (hk : 1001 < k) : ∃ p q i' h', spec_l12Draw.f k b i h = some (p, q, i', h') ∧ Cur b i' := by
 unfold spec_l12Draw.f
 obtain ⟨x1, i1, h1, e1, _, _, c1⟩ := below_ok h 25 hc (by decide)
 rw [e1, Option.bind_some]
 dsimp only
 obtain ⟨x2, i2, h2, e2, _, _, c2⟩ := below_ok h1 13 c1 (by decide)
 rw [e2, Option.bind_some]
 dsimp only
 obtain ⟨x3, i3, h3, e3, c3⟩ := once_ok h2 2 c2 (by decide)
 rw [e3, Option.bind_some]
 dsimp only
 rw [bit_ok, Option.bind_some, spec_slope _ _ k hk, Option.bind_some]
 obtain ⟨x4, i4, h4, e4, _, _, c4⟩ := below_ok h3 20 c3 (by decide)
 rw [e4, Option.bind_some]
 dsimp only
 by_cases q1 : x4 = 0
 ·rw [if_pos q1]
  obtain ⟨x5, i5, h5, e5, _, c5⟩ := pickInt_ok h4 [1, -1, 2, 0] c4 (by decide)
  rw [e5, Option.bind_some]
  dsimp only
  obtain ⟨x6, i6, h6, e6, _, c6⟩ := pickInt_ok h5 [0, -1, 2, 1001] c5 (by decide)
  rw [e6, Option.bind_some]
  exact ⟨_, _, _, _, rfl, c6⟩
 ·rw [if_neg q1]
  by_cases q2 : x4 = 1
  ·rw [if_pos q2]
   exact ⟨_, _, _, _, rfl, c4⟩
  ·rw [if_neg q2]
   exact ⟨_, _, _, _, rfl, c4⟩
theorem twist_ok (a b c d n : Int) (k : Nat) (hk : 1001 < k) : ∃ p q t, spec_TwistSlope.f k a b c d n = some (p, q, t) := by
 unfold spec_TwistSlope.f
 rw [spec_isS _ _ k (by omega), Option.bind_some, spec_isS _ _ k (by omega), Option.bind_some, l1In_eq, Option.bind_some]
 split
 ·split
  ·split
   ·rw [spec_slope _ _ k hk]
    exact ⟨_, _, _, rfl⟩
   ·exact ⟨_, _, _, rfl⟩
  ·exact ⟨_, _, _, rfl⟩
 ·exact ⟨_, _, _, rfl⟩
theorem two_j0 {b : List Int} {i : Int} (h : Int) (hc : Cur b i) (x : Bool) (p q r s : Int) (k : Nat) (hk : 1002 < k) : ∃ p' q' r' s', spec_l12Two.j0 k x b i h p q r s = some (p', q', r', s') := by
 obtain ⟨k, rfl⟩ : ∃ m, k = m + 1 := ⟨k - 1, by omega⟩
 simp only [spec_l12Two.j0]
 split
 ·exact ⟨_, _, _, _, rfl⟩
 ·rw [spec_slope _ _ k (by omega), Option.bind_some]
  split
  ·exact ⟨_, _, _, _, rfl⟩
  ·obtain ⟨p', q', i', h', e, _⟩ := draw12_ok h hc k (by omega)
   rw [e]
   exact ⟨_, _, _, _, rfl⟩
theorem two_ok (l : List Int) (hl : l.length ≤ 1048576) (k : Nat) (hk : 4001 < k) : ∃ p q r s, spec_l12Two.f k l = some (p, q, r, s) := by
 unfold spec_l12Two.f
 obtain ⟨h0, e0⟩ := new_ok l hl k (by omega)
 rw [e0, Option.bind_some]
 dsimp only
 obtain ⟨p, q, i1, h1, e1, c1⟩ := draw12_ok h0 (Cur.start hl) k (by omega)
 rw [e1, Option.bind_some]
 dsimp only
 obtain ⟨x2, i2, h2, e2, c2⟩ := once_ok h1 2 c1 (by decide)
 rw [e2, Option.bind_some]
 dsimp only
 split
 ·obtain ⟨x3, i3, h3, e3, _, _, c3⟩ := below_ok h2 5 c2 (by decide)
  rw [e3, Option.bind_some]
  dsimp only
  obtain ⟨r, s, t, e4⟩ := twist_ok p q 0 1 (wrap64 (x3 - 2)) k (by omega)
  rw [e4, Option.bind_some]
  dsimp only
  split
  ·obtain ⟨x5, i5, h5, e5, c5⟩ := once_ok h3 2 c3 (by decide)
   rw [e5, Option.bind_some]
   dsimp only
   exact two_j0 h5 c5 _ _ _ _ _ k (by omega)
  ·exact two_j0 h3 c3 _ _ _ _ _ k (by omega)
 ·obtain ⟨r, s, i3, h3, e3, c3⟩ := draw12_ok h2 c2 k (by omega)
  rw [e3]
  exact ⟨_, _, _, _, rfl⟩
theorem drawDist_ok (l : List Int) (hl : l.length ≤ 1048576) (k : Nat) (hk : 4001 < k) : ∃ p q r s, spec_DrawSlopeDistance.f k l = some (p, q, r, s) := by
 unfold spec_DrawSlopeDistance.f
 obtain ⟨p, q, r, s, e⟩ := two_ok l hl k hk
 rw [e]
 exact ⟨_, _, _, _, rfl⟩
theorem drawCommon_ok (l : List Int) (hl : l.length ≤ 1048576) (k : Nat) (hk : 4001 < k) : ∃ p q r s, spec_DrawCommonNeighbours.f k l = some (p, q, r, s) := by
 unfold spec_DrawCommonNeighbours.f
 obtain ⟨p, q, r, s, e⟩ := two_ok l hl k hk
 rw [e]
 exact ⟨_, _, _, _, rfl⟩
theorem drawNeigh_ok (l : List Int) (hl : l.length ≤ 1048576) (k : Nat) (hk : 4001 < k) : ∃ p q n, spec_DrawNeighbourSlopes.f k l = some (p, q, n) := by
 unfold spec_DrawNeighbourSlopes.f
 obtain ⟨h0, e0⟩ := new_ok l hl k (by omega)
 rw [e0, Option.bind_some]
 dsimp only
 obtain ⟨p, q, i1, h1, e1, c1⟩ := draw12_ok h0 (Cur.start hl) k (by omega)
 rw [e1, Option.bind_some]
 dsimp only
 obtain ⟨x2, i2, h2, e2, _, _⟩ := pickInt_ok h1 [1, 2, 3, 5, 20, 0, 21] c1 (by decide)
 rw [e2]
 exact ⟨_, _, _, rfl⟩
theorem drawParents_ok (l : List Int) (hl : l.length ≤ 1048576) (k : Nat) (hk : 4001 < k) : ∃ p q, spec_DrawParentsOf.f k l = some (p, q) := by
 unfold spec_DrawParentsOf.f
 obtain ⟨h0, e0⟩ := new_ok l hl k (by omega)
 rw [e0, Option.bind_some]
 dsimp only
 obtain ⟨p, q, i1, h1, e1, c1⟩ := draw12_ok h0 (Cur.start hl) k (by omega)
 rw [e1]
 exact ⟨_, _, rfl⟩
end Go.Proofs.Ytigcjehokbgclaa.L

namespace Go.Proofs.Ytigcjehokbgclaa.L
open Go.RowKit Go.Proofs.Ytigcjehokbgclaa.P Go.Proofs.Ytigcjehokbgclaa.Help Go.Proofs.YtigcjehokbgclaaW.PrintWords
set_option linter.unusedVariables false
set_option linter.unusedSimpArgs false

def turnM (x : Int) : Int × Int × Int × Int := if x = 82 then (1, 1, 0, 1) else if x = 76 then (1, 0, 1, 1) else if x = 114 then (1, -1, 0, 1) else if x = 108 then (1, 0, -1, 1) else (0, 0, 0, 0)
theorem spec_turn (x : Int) : spec_l13Turn.f x = some (turnM x) := by
 unfold spec_l13Turn.f turnM
 repeat' split
 all_goals rfl
/-- The product of the turns of a text from a place on. -/
def tofI (s : ByteArray) : Nat → Nat → Int → Int → Int → Int → Int × Int × Int × Int × Bool
 | 0, _, a, b, c, d => (a, b, c, d, true)
 | n + 1, i, a, b, c, d =>
  if (timesR a b c d (turnM (bt s i)).1 (turnM (bt s i)).2.1 (turnM (bt s i)).2.2.1 (turnM (bt s i)).2.2.2).2.2.2.2 = true then
   tofI s n (i + 1) (timesR a b c d (turnM (bt s i)).1 (turnM (bt s i)).2.1 (turnM (bt s i)).2.2.1 (turnM (bt s i)).2.2.2).1 (timesR a b c d (turnM (bt s i)).1 (turnM (bt s i)).2.1 (turnM (bt s i)).2.2.1 (turnM (bt s i)).2.2.2).2.1 (timesR a b c d (turnM (bt s i)).1 (turnM (bt s i)).2.1 (turnM (bt s i)).2.2.1 (turnM (bt s i)).2.2.2).2.2.1 (timesR a b c d (turnM (bt s i)).1 (turnM (bt s i)).2.1 (turnM (bt s i)).2.2.1 (turnM (bt s i)).2.2.2).2.2.2.1
  else (0, 0, 0, 0, false)
theorem spec_tofI (s : ByteArray) (hs : s.size ≤ 24) : ∀ (n k i : Nat) (a b c d : Int), i + n = s.size → 2 * n + 8 < k → spec_TurnsOf.l0 k s (i : Int) a b c d = some (tofI s n i a b c d) := by
 intro n
 induction n with
 | zero =>
  intro k i a b c d hi hk
  obtain ⟨k, rfl⟩ : ∃ m, k = m + 2 := ⟨k - 2, by omega⟩
  simp only [spec_TurnsOf.l0, spec_TurnsOf.j1, tofI]
  rw [if_neg (by omega), if_neg (by decide), if_neg (by omega)]
 | succ n ih =>
  intro k i a b c d hi hk
  obtain ⟨k, rfl⟩ : ∃ m, k = m + 2 := ⟨k - 2, by omega⟩
  simp only [spec_TurnsOf.l0, spec_TurnsOf.j1, tofI]
  rw [if_pos (by omega), if_pos (decide_eq_true (by omega)), if_pos (by omega), if_pos (by omega), spec_turn, Option.bind_some, spec_times _ _ _ _ _ _ _ _ _ (by omega), Option.bind_some]
  split
  ·rw [w_id (by omega) (by omega), show ((i : Int) + 1) = ((i + 1 : Nat) : Int) by omega, ih k (i + 1) _ _ _ _ (by omega) (by omega)]
  ·rfl
def turnsOfR (s : ByteArray) : Int × Int × Int × Int × Bool := if s.size > 24 then (0, 0, 0, 0, false) else tofI s s.size 0 1 0 0 1
theorem spec_turnsOf (s : ByteArray) (hsz : s.size ≤ 9000000000000000000) (k : Nat) (hk : 60 < k) : spec_TurnsOf.f k s = some (turnsOfR s) := by
 unfold spec_TurnsOf.f turnsOfR
 by_cases h : s.size > 24
 ·rw [if_pos h]
  obtain ⟨k, rfl⟩ : ∃ m, k = m + 2 := ⟨k - 2, by omega⟩
  simp only [spec_TurnsOf.l0, spec_TurnsOf.j1]
  rw [if_pos (by omega), if_neg (by simp; omega), if_pos (by omega)]
 ·rw [if_neg h]
  exact spec_tofI s (by omega) s.size k 0 1 0 0 1 (by omega) (by omega)
end Go.Proofs.Ytigcjehokbgclaa.L

namespace Go.Proofs.Ytigcjehokbgclaa.L
open Go Go.RowKit Go.Proofs.Ytigcjehokbgclaa.P Go.Proofs.Ytigcjehokbgclaa.Help Go.Proofs.YtigcjehokbgclaaW.PrintWords
set_option linter.unusedVariables false
set_option linter.unusedSimpArgs false
theorem word_l0 {b : List Int} : ∀ (d k : Nat) (o : ByteArray) (n i h : Int), Cur b i → n ≤ d → d < k → o.size + d ≤ 1000000 → ∃ s i' h', spec_l13Word.l0 k o n b i h = some (s, i', h') ∧ s.size ≤ o.size + d ∧ Cur b i'
 | 0, k, o, n, i, h, hc, hn, hk, ho => by
  obtain ⟨k, rfl⟩ : ∃ m, k = m + 1 := ⟨k - 1, by omega⟩
  simp only [spec_l13Word.l0]
  rw [if_neg (by omega)]
  exact ⟨_, _, _, rfl, Nat.le_refl _, hc⟩
 | d + 1, k, o, n, i, h, hc, hn, hk, ho => by
  obtain ⟨k, rfl⟩ : ∃ m, k = m + 1 := ⟨k - 1, by omega⟩
  simp only [spec_l13Word.l0]
  by_cases c : n > 0
  ·rw [if_pos c]
   obtain ⟨x, i1, h1, e1, hx, c1⟩ := pick_ok h [(⟨#[82]⟩ : ByteArray), (⟨#[76]⟩ : ByteArray), (⟨#[114]⟩ : ByteArray), (⟨#[108]⟩ : ByteArray)] hc (by decide)
   have hs : x.size = 1 := by
    simp only [List.mem_cons, List.not_mem_nil, or_false] at hx
    rcases hx with rfl | rfl | rfl | rfl <;> rfl
   rw [e1, Option.bind_some]
   dsimp only
   rw [if_pos (by rw [hs]; omega), w_id (a := n - 1) (by omega) (by omega)]
   obtain ⟨s, i', h', e, l, c'⟩ := word_l0 d k (o ++ x) (n - 1) i1 h1 c1 (by omega) (by omega) (by rw [ByteArray.size_append, hs]; omega)
   exact ⟨s, i', h', e, by rw [ByteArray.size_append, hs] at l; omega, c'⟩
  ·rw [if_neg c]
   exact ⟨_, _, _, rfl, by omega, hc⟩
theorem word_ok {b : List Int} {i : Int} (h : Int) (n : Int) (hc : Cur b i) (h0 : 0 ≤ n) (h1 : n ≤ 1000) (k : Nat) (hk : 1001 < k) : ∃ s i' h', spec_l13Word.f k b i h n = some (s, i', h') ∧ s.size ≤ 1000 ∧ Cur b i' := by
 unfold spec_l13Word.f
 rw [w_id (by omega) (by omega)]
 obtain ⟨x, i1, h1, e1, x0, x1, c1⟩ := below_ok h (n + 1) hc (by omega)
 rw [e1, Option.bind_some]
 dsimp only
 obtain ⟨s, i', h', e, l, c'⟩ := word_l0 1000 k (⟨#[]⟩ : ByteArray) x i1 h1 c1 (by omega) (by omega) (by decide)
 exact ⟨s, i', h', e, by
  have : (⟨#[]⟩ : ByteArray).size = 0 := rfl
  omega, c'⟩
theorem draw13_ok {b : List Int} {i : Int} (h : Int) (hc : Cur b i) (k : Nat) (hk : 1001 < k) : ∃ a1 a2 a3 a4 i' h', spec_l13Draw.f k b i h = some (a1, a2, a3, a4, i', h') ∧ Cur b i' := by
 unfold spec_l13Draw.f
 obtain ⟨s, i1, h1, e1, hs, c1⟩ := word_ok h 6 hc (by decide) (by decide) k hk
 rw [e1, Option.bind_some]
 dsimp only
 rw [spec_turnsOf s (by omega) k (by omega), Option.bind_some]
 obtain ⟨x2, i2, h2, e2, _, _, c2⟩ := below_ok h1 14 c1 (by decide)
 rw [e2, Option.bind_some]
 dsimp only
 split
 ·obtain ⟨x3, i3, h3, e3, _, _, c3⟩ := below_ok h2 3 c2 (by decide)
  rw [e3, Option.bind_some]
  dsimp only
  obtain ⟨x4, i4, h4, e4, _, _, c4⟩ := below_ok h3 3 c3 (by decide)
  rw [e4, Option.bind_some]
  dsimp only
  obtain ⟨x5, i5, h5, e5, _, _, c5⟩ := below_ok h4 3 c4 (by decide)
  rw [e5, Option.bind_some]
  dsimp only
  obtain ⟨x6, i6, h6, e6, _, _, c6⟩ := below_ok h5 3 c5 (by decide)
  rw [e6, Option.bind_some]
  exact ⟨_, _, _, _, _, _, rfl, c6⟩
 ·split
  ·exact ⟨_, _, _, _, _, _, rfl, c2⟩
  ·split
   ·exact ⟨_, _, _, _, _, _, rfl, c2⟩
   ·exact ⟨_, _, _, _, _, _, rfl, c2⟩
theorem drawMove_ok (l : List Int) (hl : l.length ≤ 1048576) (k : Nat) (hk : 4001 < k) : ∃ a1 a2 a3 a4 p q, spec_DrawMoveSlope.f k l = some (a1, a2, a3, a4, p, q) := by
 unfold spec_DrawMoveSlope.f
 obtain ⟨h0, e0⟩ := new_ok l hl k (by omega)
 rw [e0, Option.bind_some]
 dsimp only
 obtain ⟨a1, a2, a3, a4, i1, h1, e1, c1⟩ := draw13_ok h0 (Cur.start hl) k (by omega)
 rw [e1, Option.bind_some]
 dsimp only
 obtain ⟨p, q, i2, h2, e2, c2⟩ := draw12_ok h1 c1 k (by omega)
 rw [e2]
 exact ⟨_, _, _, _, _, _, rfl⟩
end Go.Proofs.Ytigcjehokbgclaa.L

namespace Go.Proofs.Ytigcjehokbgclaa.L
open Go.RowKit Go.Proofs.Ytigcjehokbgclaa.P Go.Proofs.Ytigcjehokbgclaa.Help Go.Proofs.YtigcjehokbgclaaW.PrintWords
set_option linter.unusedVariables false
set_option linter.unusedSimpArgs false
theorem rdT_of {xs : List S25} {i : Nat} {a : S25} (h : xs[i]? = some a) : rd_T25 xs (i : Int) = a := by
 obtain ⟨hi, e⟩ := List.getElem?_eq_some_iff.1 h
 rw [rdT_nat xs i hi, e]
theorem same_l0 (xs : List S25) (hx : xs.length ≤ 1000000000000) : ∀ (d k i : Nat), i + d = xs.length → d < k → laws_sameSlopes.l0 k xs xs (i : Int) = some true
 | 0, k, i, hi, hk => by
  obtain ⟨k, rfl⟩ : ∃ m, k = m + 1 := ⟨k - 1, by omega⟩
  simp only [laws_sameSlopes.l0]
  rw [if_neg (by omega)]
 | d + 1, k, i, hi, hk => by
  obtain ⟨k, rfl⟩ : ∃ m, k = m + 1 := ⟨k - 1, by omega⟩
  simp only [laws_sameSlopes.l0]
  rw [if_pos (by omega), if_pos (by omega), if_pos (by omega), if_neg (by simp), w_id (by omega) (by omega), show ((i : Int) + 1) = ((i + 1 : Nat) : Int) by omega]
  exact same_l0 xs hx d k (i + 1) (by omega) (by omega)
theorem same_ok (xs : List S25) (hx : xs.length ≤ 1000000000000) (k : Nat) (hk : xs.length < k) : laws_sameSlopes.f k xs xs = some true := by
 unfold laws_sameSlopes.f
 rw [if_pos rfl]
 exact same_l0 xs hx xs.length k 0 (by omega) hk
theorem fl_l1 {p q r s : Int} {n : Nat} {w : List S25} (hw : WayL p q r s n w) (hn : n ≤ 3000000) : ∀ (d k i : Nat), i + d = w.length → 1 ≤ i → d + 1001 < k → laws_FnFarey.l1 k (n : Int) w (i : Int) p q r s = some true
 | 0, k, i, hi, h1, hk => by
  obtain ⟨k, rfl⟩ : ∃ m, k = m + 1 := ⟨k - 1, by omega⟩
  have hl := hw.len
  have e0 := rdT_of hw.head
  have e1 := rdT_of hw.last
  simp only [laws_FnFarey.l1]
  rw [show ((0 : Nat) : Int) = 0 from rfl] at e0
  rw [if_neg (by omega), if_neg (by omega), w_id (by omega) (by omega), if_pos (by omega), if_pos (by omega), e0, e1, if_pos (by simp), if_pos (by omega), if_pos (by omega)]
  simp
 | d + 1, k, i, hi, h1, hk => by
  obtain ⟨k, rfl⟩ : ∃ m, k = m + 1 := ⟨k - 1, by omega⟩
  have hl := hw.len
  obtain ⟨j, rfl⟩ : ∃ m, i = m + 1 := ⟨i - 1, by omega⟩
  have ga : w[j]? = some w[j] := List.getElem?_eq_getElem (by omega)
  have gb : w[j + 1]? = some w[j + 1] := List.getElem?_eq_getElem (by omega)
  have hc := hw.next j _ _ ga gb
  simp only [laws_FnFarey.l1]
  rw [if_pos (by omega), w_id (a := ((j + 1 : Nat) : Int) - 1) (by omega) (by omega), show (((j + 1 : Nat) : Int) - 1) = (j : Int) by omega, if_pos (by omega), if_pos (by omega), if_pos (by omega), rdT_of ga, rdT_of gb, spec_cross _ _ _ _ k (by omega), Option.bind_some, if_pos hc, w_id (by omega) (by omega), show (((j + 1 : Nat) : Int) + 1) = ((j + 1 + 1 : Nat) : Int) by omega]
  exact fl_l1 hw hn d k (j + 1 + 1) (by omega) (by omega) (by omega)
theorem fl_j6 (p q r s : Int) (x : Bool) (k : Nat) (hk : 200000000000 ≤ k) : laws_FnFarey.j5 k (distR p q r s) x p q r s = some true := by
 obtain ⟨k, rfl⟩ : ∃ m, k = m + 1 := ⟨k - 1, by omega⟩
 simp only [laws_FnFarey.j5]
 cases x with
 | true => rfl
 | false =>
  obtain ⟨res, e1, e2, e3⟩ := steps_chain p q r s k (by omega)
  rw [if_neg (by decide), e1, Option.bind_some, e2, Option.bind_some]
  rcases e3 with rfl | ⟨h1, h2, e3⟩
  ·rw [same_ok [] (by decide) k (by rw [List.length_nil]; omega), Option.bind_some, if_pos rfl]
   obtain ⟨k, rfl⟩ : ∃ m, k = m + 1 := ⟨k - 1, by omega⟩
   simp [laws_FnFarey.l1]
  ·obtain ⟨d1, d2, d3⟩ := distR_of h1 h2
   have hl := e3.len
   rw [d1]
   rw [same_ok res (by omega) k (by omega), Option.bind_some, if_pos rfl]
   have := fl_l1 e3 (by omega) (res.length - 1) k 1 (by omega) (by omega) (by omega)
   rw [Int.toNat_of_nonneg d2] at this
   exact this
theorem mag_ok (a : Int) : ∃ v, laws_magnitude.f a = some v := by
 unfold laws_magnitude.f
 split <;> exact ⟨_, rfl⟩
theorem fl_j5 (p q r s : Int) (t x : Bool) (hx : x = false) (u v : Int) (k : Nat) (hk : 200000000001 ≤ k) : laws_FnFarey.j4 k (distR p q r s) t x p q r s u v = some true := by
 obtain ⟨k, rfl⟩ : ∃ m, k = m + 1 := ⟨k - 1, by omega⟩
 subst hx
 simp only [laws_FnFarey.j4]
 rw [if_neg (by decide), spec_isS _ _ k (by omega), Option.bind_some]
 have yes : laws_FnFarey.j5 k (distR p q r s) true p q r s = some true := fl_j6 p q r s true k (by omega)
 split
 ·split
  ·rename_i h1
   obtain ⟨v1, m1⟩ := mag_ok p
   obtain ⟨v2, m2⟩ := mag_ok r
   rw [m1, Option.bind_some, m2, Option.bind_some]
   repeat' split
   all_goals first | exact yes | exact fl_j6 p q r s _ k (by omega)
  ·exact yes
 ·exact yes
theorem fl_j4 (l : List Int) (hl : l.length ≤ 1048576) (p q r s : Int) (k : Nat) (hk : 200000000002 ≤ k) : laws_FnFarey.j3 k l (distR p q r s) p q r s = some true := by
 obtain ⟨k, rfl⟩ : ∃ m, k = m + 1 := ⟨k - 1, by omega⟩
 simp only [laws_FnFarey.j3]
 obtain ⟨a, b, c, d, u, v, e⟩ := drawMove_ok l hl k (by omega)
 rw [e, Option.bind_some]
 dsimp only
 rw [spec_move _ _ _ _ _ _ k (by omega), Option.bind_some, spec_move _ _ _ _ _ _ k (by omega), Option.bind_some]
 split
 ·rename_i h1
  split
  ·rename_i h2
   rw [impl_dist _ _ _ _ k (by omega), Option.bind_some]
   obtain ⟨hd, i1, i2, x, hx, x1, x2⟩ := move_facts h1
   obtain ⟨_, i3, i4, y, hy, y1, y2⟩ := move_facts h2
   have := dS_move i1 i3 i2 i4 hd hx hy x1 x2 y1 y2
   have e1 := (distR_of i2 i4).1
   have e2 := (distR_of i1 i3).1
   exact fl_j5 p q r s _ _ (by rw [e1, e2, this]; simp) _ _ k (by omega)
  ·exact fl_j5 p q r s _ _ rfl _ _ k (by omega)
 ·exact fl_j5 p q r s _ _ rfl _ _ k (by omega)
theorem fl_j3 (l : List Int) (hl : l.length ≤ 1048576) (p q r s a b : Int) (x : Bool) (hx : x = false) (k : Nat) (hk : 200000000003 ≤ k) : laws_FnFarey.j2 k l (distR p q r s) (parR a b).1 (parR a b).2 x p q r s a b = some true := by
 obtain ⟨k, rfl⟩ : ∃ m, k = m + 1 := ⟨k - 1, by omega⟩
 subst hx
 simp only [laws_FnFarey.j2]
 rw [if_neg (by decide)]
 split
 ·rename_i h
  obtain ⟨u, v, e, hs, hc, h1, h2⟩ := par_ok h
  obtain ⟨b1, b2, _⟩ := isS_true hs
  rw [e]
  have r0 : rd_T25 [u, v] 0 = u := rfl
  have r1 : rd_T25 [u, v] 1 = v := rfl
  rw [if_pos (by simp), if_pos (by simp), r0, r1, sum_spec hc h1 h2 hs k (by omega), Option.bind_some]
  dsimp only
  rw [if_pos rfl, if_neg (by simp), h2, w_id (by omega) (by omega), if_pos rfl]
  exact fl_j4 l hl p q r s k (by omega)
 ·exact fl_j4 l hl p q r s k (by omega)
theorem crossing_mem {p q n : Int} {t : S25} (h : t ∈ neighR p q n) : crossR t.f0 t.f1 p q = 1 := by
 unfold neighR at h
 split at h
 ·have h1 : crossR p q t.f0 t.f1 = 1 := of_decide_eq_true (List.mem_filter.1 h).2
  obtain ⟨i1, i2⟩ := crossR_is h1
  unfold crossR at h1 ⊢
  rw [if_pos ⟨i1, i2⟩] at h1
  rw [if_pos ⟨i2, i1⟩, ← h1, ← Int.natAbs_neg]
  congr 2
  grind
 ·cases h
theorem fl_l0 (l : List Int) (hl : l.length ≤ 1048576) (p q r s a b c d e f g h m : Int) : ∀ (dd k i : Nat), i + dd = (neighR a b m).length → 200000000004 + dd ≤ k →
  laws_FnFarey.l0 k l (distR p q r s) (neighR a b m) (commonR c d e f) (parR g h).1 (parR g h).2 (i : Int) p q r s a b c d e f g h = some true
 | 0, k, i, hi, hk => by
  obtain ⟨k, rfl⟩ : ∃ m, k = m + 1 := ⟨k - 1, by omega⟩
  simp only [laws_FnFarey.l0]
  rw [if_neg (by omega)]
  split
  ·rename_i h2
   obtain ⟨u, v, e⟩ : ∃ u v, commonR c d e f = [u, v] := by
    have h3 : (commonR c d e f).length = 2 := by omega
    generalize commonR c d e f = w at h3
    match w, h3 with
    | [u, v], _ => exact ⟨u, v, rfl⟩
   have r0 : rd_T25 [u, v] 0 = u := rfl
   have r1 : rd_T25 [u, v] 1 = v := rfl
   obtain ⟨c1, c2, c3⟩ := common_facts e
   rw [e, if_pos (by simp), if_pos (by simp), r0, r1, spec_cross _ _ _ _ k (by omega), Option.bind_some, c1, if_pos rfl, spec_cross _ _ _ _ k (by omega), Option.bind_some, c2, if_pos rfl, spec_cross _ _ _ _ k (by omega), Option.bind_some, c3]
   exact fl_j3 l hl p q r s g h _ rfl k (by omega)
  ·exact fl_j3 l hl p q r s g h _ rfl k (by omega)
 | dd + 1, k, i, hi, hk => by
  obtain ⟨k, rfl⟩ : ∃ m, k = m + 1 := ⟨k - 1, by omega⟩
  have hb := neighR_len a b m
  have hlt : i < (neighR a b m).length := by omega
  have hc := crossing_mem (List.getElem_mem hlt)
  have next := fl_l0 l hl p q r s a b c d e f g h m dd k (i + 1) (by omega) (by omega)
  rw [show ((i + 1 : Nat) : Int) = (i : Int) + 1 by omega] at next
  simp only [laws_FnFarey.l0]
  rw [if_pos (by omega), if_pos (by omega), rdT_nat _ i hlt, spec_cross _ _ _ _ k (by omega), Option.bind_some, if_pos hc, impl_dist _ _ _ _ k (by omega), Option.bind_some, impl_dist _ _ _ _ k (by omega), Option.bind_some, w_id (a := (i : Int) + 1) (by omega) (by omega)]
  split
  ·rename_i h0
   obtain ⟨i1, i2, e1⟩ := distR_is h0
   obtain ⟨j1, _⟩ := crossR_is hc
   obtain ⟨e2, d1, d2⟩ := distR_of j1 i2
   obtain ⟨_, d3, d4⟩ := distR_of i1 i2
   have l1 := dS_lip j1 i1 i2 (nb_cross hc)
   have l2 := dS_lip i1 j1 i2 (nb_cross hc).symm
   rw [e1, e2, w_id (by omega) (by omega), w_id (by omega) (by omega), if_neg (by omega), if_neg (by omega)]
   exact next
  ·exact next
theorem fl_j1 (l : List Int) (hl : l.length ≤ 1048576) (p q r s a b c d e f g h m : Int) (x : Bool) (hx : x = false) (k : Nat) (hk : 200000100000 ≤ k) :
  laws_FnFarey.j0 k l (distR p q r s) (neighR a b m) (commonR c d e f) (parR g h).1 (parR g h).2 x p q r s a b c d e f g h = some true := by
 obtain ⟨k, rfl⟩ : ∃ m, k = m + 1 := ⟨k - 1, by omega⟩
 subst hx
 have hb := neighR_len a b m
 simp only [laws_FnFarey.j0]
 rw [if_neg (by decide)]
 exact fl_l0 l hl p q r s a b c d e f g h m (neighR a b m).length k 0 (by omega) (by omega)
theorem fl_top (l : List Int) (hl : l.length ≤ 1048576) (p q r s a b c d e f g h m : Int) (k : Nat) (hk : 200000100001 ≤ k) :
  (if distR p q r s ≥ 0 then (if ((distR p q r s == 0) != (p == r && (q == s))) = true then none else ((spec_CrossNumber.f k p q r s).bind fun t => laws_FnFarey.j0 k l (distR p q r s) (neighR a b m) (commonR c d e f) (parR g h).1 (parR g h).2 ((distR p q r s == 1) != (t == 1)) p q r s a b c d e f g h)) else laws_FnFarey.j0 k l (distR p q r s) (neighR a b m) (commonR c d e f) (parR g h).1 (parR g h).2 false p q r s a b c d e f g h) = some true := by
 split
 ·rename_i h0
  obtain ⟨i1, i2, e1⟩ := distR_is h0
  have z := (dist_f i1 i2 10000002 (by decide)).2.2.2.2
  have z1 := dS_one i1 i2
  have hz : ((distR p q r s == 0) != (p == r && (q == s))) = false := by
   rw [e1]
   by_cases c0 : dS p q r s = 0
   ·obtain ⟨rfl, rfl⟩ := same_of i1 i2 (z.1 c0)
    simp [c0]
   ·have : ¬ (p = r ∧ q = s) := by
     rintro ⟨rfl, rfl⟩
     exact c0 (z.2 (Int.mul_comm p q))
    have h2 : (p == r && (q == s)) = false := by
     rw [Bool.and_eq_false_iff]
     by_cases c1 : p = r
     ·right
      simpa using fun h => this ⟨c1, h⟩
     ·left
      simpa using c1
    rw [h2]
    simpa using c0
  rw [hz, if_neg (by decide), spec_cross _ _ _ _ k (by omega), Option.bind_some]
  refine fl_j1 l hl p q r s a b c d e f g h m _ ?_ k (by omega)
  rw [e1]
  unfold crossR
  rw [if_pos ⟨i1, i2⟩]
  by_cases c1 : dS p q r s = 1
  ·have := z1.1 c1
   rw [c1, this]
   rfl
  ·have h3 : ¬ ((p * s - q * r).natAbs : Int) = 1 := fun h => c1 (z1.2 (by omega))
   rw [show (dS p q r s == 1) = false by simpa using c1, show (((p * s - q * r).natAbs : Int) == 1) = false by simpa using h3]
   rfl
 ·exact fl_j1 l hl p q r s a b c d e f g h m _ rfl k (by omega)
theorem fl_f (l : List Int) (hl : l.length ≤ 1048576) : laws_FnFarey.f 200001000000 l = some true := by
 unfold laws_FnFarey.f laws_big.f
 rw [Option.bind_some, if_neg (by simp; omega)]
 obtain ⟨p, q, r, s, e1⟩ := drawDist_ok l hl 200001000000 (by decide)
 obtain ⟨a, b, m, e2⟩ := drawNeigh_ok l hl 200001000000 (by decide)
 obtain ⟨c, d, e, f, e3⟩ := drawCommon_ok l hl 200001000000 (by decide)
 obtain ⟨g, h, e4⟩ := drawParents_ok l hl 200001000000 (by decide)
 have hb := neighR_len a b m
 have hcl := commonR_len c d e f
 have hpl := parR_len g h
 rw [e1, Option.bind_some, impl_dist _ _ _ _ _ (by decide), Option.bind_some, e2, Option.bind_some, impl_neigh _ _ _ _ (by decide), Option.bind_some, e3, Option.bind_some, impl_common _ _ _ _ _ (by decide), Option.bind_some, e4, Option.bind_some, impl_parents _ _ _ (by decide), Option.bind_some, spec_parents _ _ _ (by decide), Option.bind_some, spec_dist _ _ _ _ _ (by decide), Option.bind_some, if_pos rfl, spec_neigh _ _ _ _ (by decide), Option.bind_some, same_ok _ (Nat.le_trans (neighR_len _ _ _) (by decide)) _ (Nat.lt_of_le_of_lt (neighR_len _ _ _) (by decide)), Option.bind_some, if_pos rfl, spec_common _ _ _ _ _ (by decide), Option.bind_some, same_ok _ (Nat.le_trans (commonR_len _ _ _ _) (by decide)) _ (Nat.lt_of_le_of_lt (commonR_len _ _ _ _) (by decide)), Option.bind_some, if_pos rfl, if_neg (by simp), same_ok _ (Nat.le_trans (parR_len _ _) (by decide)) _ (Nat.lt_of_le_of_lt (parR_len _ _) (by decide)), Option.bind_some, if_pos rfl]
 dsimp only
 rw [impl_dist _ _ _ _ _ (by decide), Option.bind_some, if_pos (distR_symm p q r s)]
 exact fl_top l hl p q r s a b c d e f g h m _ (by decide)
end Go.Proofs.Ytigcjehokbgclaa.L

namespace Go.Proofs.Ytigcjehokbgclaa.Pure
open Go.RowKit Go.Proofs.Ytigcjehokbgclaa.P Go.Proofs.Ytigcjehokbgclaa.Help Go.Proofs.Ytigcjehokbgclaa.L
theorem FnFarey : laws_FnFarey.Pure := by
 intro l _ _ _
 by_cases hl : l.length ≤ 1048576
 ·exact ⟨_, fl_f l hl⟩
 ·refine ⟨1, ?_⟩
  unfold laws_FnFarey.f laws_big.f
  rw [Option.bind_some, if_pos (by simp; omega)]
end Go.Proofs.Ytigcjehokbgclaa.Pure
