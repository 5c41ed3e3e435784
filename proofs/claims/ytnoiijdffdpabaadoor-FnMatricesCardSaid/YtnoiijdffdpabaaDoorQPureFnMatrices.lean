/- Matrices multiply as they move slopes, and their kinds tell orders and fixed slopes; no condition. -/
import Derived.Test.YtnoiijdffdpabaaDoorQPx0
import Derived.Test.YtnoiijdffdpabaaDoorQHelp
import Derived.Test.YtnoiijdffdpabaaDoorQPx2
import Derived.Test.YtnoiijdffdpabaaDoorQPx5
import Derived.Test.YtnoiijdffdpabaaDoorQPx9
import Derived.Test.YtnoiijdffdpabaaDoorQPx12
import Derived.Test.YtnoiijdffdpabaaDoorQPx14
import Derived.Test.YtnoiijdffdpabaaDoorQPx15
import Derived.Test.YtnoiijdffdpabaaDoorQPx13
import Derived.Test.YtnoiijdffdpabaaDoorQPx16
import Derived.Test.YtnoiijdffdpabaaDoorQPx17
import Derived.Test.YtnoiijdffdpabaaDoorQPx18
import Derived.Test.YtnoiijdffdpabaaDoorQPx10
import Derived.Test.YtnoiijdffdpabaaDoorQPx19
import Derived.Test.YtnoiijdffdpabaaDoorQPx20
import Derived.Test.YtnoiijdffdpabaaDoorQPx21
import Derived.Test.YtnoiijdffdpabaaDoorQPx22
import Derived.Test.YtnoiijdffdpabaaDoorQPx23
import Derived.Lib.ItoaLen
import Derived.Test.YtnoiijdffdpabaaDoorQPx6
import Derived.Test.YtnoiijdffdpabaaDoorQPx11
import Derived.Test.YtnoiijdffdpabaaDoorQPx24

namespace Go.Proofs.YtnoiijdffdpabaaDoor.L
open Go.RowKit Go.Proofs.YtnoiijdffdpabaaDoor.P Go.Proofs.YtnoiijdffdpabaaDoor.Help Go.Proofs.YtnoiijdffdpabaaDoorW.PrintWords
set_option linter.unusedVariables false
set_option linter.unusedSimpArgs false

theorem w_id {a : Int} (h0 : -9223372036854775808 ≤ a) (h1 : a ≤ 9223372036854775807) : wrap64 a = a := by unfold wrap64; omega
theorem mulb {a b A B : Int} (h1 : -A ≤ a) (h2 : a ≤ A) (h3 : -B ≤ b) (h4 : b ≤ B) : -(A * B) ≤ a * b ∧ a * b ≤ A * B := by
 have hA : 0 ≤ A := by omega
 have hB : 0 ≤ B := by omega
 have h : (a * b).natAbs ≤ (A * B).natAbs := by
  rw [Int.natAbs_mul, Int.natAbs_mul]
  exact Nat.mul_le_mul (by omega) (by omega)
 have hp : 0 ≤ A * B := Int.mul_nonneg hA hB
 omega
theorem rd_nat (xs : List Int) (i : Nat) (h : i < xs.length) : rd xs (i : Int) = xs[i] := by
 unfold rd
 simp [List.getD_eq_getElem?_getD, List.getElem?_eq_getElem h]
theorem unit_of {a d : Int} (h : a * d = 1) : a = 1 ∨ a = -1 := by
 have h1 : a.natAbs * d.natAbs = 1 := by rw [← Int.natAbs_mul, h]; rfl
 have h2 : a.natAbs = 1 := Nat.eq_one_of_mul_eq_one_right h1
 omega
end Go.Proofs.YtnoiijdffdpabaaDoor.L

namespace Go.Proofs.YtnoiijdffdpabaaDoor.L
open Go.RowKit Go.Proofs.YtnoiijdffdpabaaDoor.P Go.Proofs.YtnoiijdffdpabaaDoor.Help Go.Proofs.YtnoiijdffdpabaaDoorW.PrintWords
set_option linter.unusedVariables false
set_option linter.unusedSimpArgs false

theorem l1In_eq (a lo hi : Int) : spec_l1In.f a lo hi = some (decide (lo ≤ a ∧ a ≤ hi)) := by
 unfold spec_l1In.f
 by_cases h : lo ≤ a <;> simp [h]
theorem within_eq (a lo hi : Int) : impl_within.f a lo hi = some (decide (lo ≤ a ∧ a ≤ hi)) := by
 unfold impl_within.f
 by_cases h : lo ≤ a <;> simp [h]
end Go.Proofs.YtnoiijdffdpabaaDoor.L

namespace Go.Proofs.YtnoiijdffdpabaaDoor.L
open Go.RowKit Go.Proofs.YtnoiijdffdpabaaDoor.P Go.Proofs.YtnoiijdffdpabaaDoor.Help Go.Proofs.YtnoiijdffdpabaaDoorW.PrintWords
set_option linter.unusedVariables false
set_option linter.unusedSimpArgs false

def sm (x : Int) : Bool := decide (-1000 ≤ x ∧ x ≤ 1000)
theorem fits_l0 (xs : List Int) (hx : xs.length ≤ 1000000) : ∀ (d k i : Nat), i + d = xs.length → d < k → spec_l11Fits.l0 k xs (i : Int) = some ((xs.drop i).all sm) := by
 intro d
 induction d with
 | zero =>
  intro k i hi hk
  obtain ⟨k, rfl⟩ : ∃ m, k = m + 1 := ⟨k - 1, by omega⟩
  simp only [spec_l11Fits.l0]
  rw [if_neg (by omega), List.drop_of_length_le (by omega)]
  rfl
 | succ d ih =>
  intro k i hi hk
  obtain ⟨k, rfl⟩ : ∃ m, k = m + 1 := ⟨k - 1, by omega⟩
  have hlt : i < xs.length := by omega
  simp only [spec_l11Fits.l0]
  rw [if_pos (by omega), if_pos (by omega), l1In_eq, Option.bind_some, w_id (by omega) (by omega), show ((i : Int) + 1) = ((i + 1 : Nat) : Int) by omega, ih k (i + 1) (by omega) (by omega), List.drop_eq_getElem_cons hlt, List.all_cons, rd_nat xs i hlt]
  unfold sm
  by_cases h : -1000 ≤ xs[i] ∧ xs[i] ≤ 1000 <;> simp [h]
theorem areSmall_l0 (xs : List Int) (hx : xs.length ≤ 1000000) : ∀ (d k i : Nat), i + d = xs.length → d < k → impl_areSmall.l0 k xs (xs.length : Int) (i : Int) = some ((xs.drop i).all sm) := by
 intro d
 induction d with
 | zero =>
  intro k i hi hk
  obtain ⟨k, rfl⟩ : ∃ m, k = m + 1 := ⟨k - 1, by omega⟩
  simp only [impl_areSmall.l0]
  rw [if_neg (by omega), List.drop_of_length_le (by omega)]
  rfl
 | succ d ih =>
  intro k i hi hk
  obtain ⟨k, rfl⟩ : ∃ m, k = m + 1 := ⟨k - 1, by omega⟩
  have hlt : i < xs.length := by omega
  simp only [impl_areSmall.l0]
  rw [if_pos (by omega), if_pos (by omega), if_pos (by omega), within_eq, Option.bind_some, w_id (by omega) (by omega), show ((i : Int) + 1) = ((i + 1 : Nat) : Int) by omega, ih k (i + 1) (by omega) (by omega), List.drop_eq_getElem_cons hlt, List.all_cons, rd_nat xs i hlt]
  unfold sm
  by_cases h : -1000 ≤ xs[i] ∧ xs[i] ≤ 1000 <;> simp [h]
/-- A matrix: four small numbers, the determinant 1. -/
def isM (a b c d : Int) : Bool := decide ((-1000 ≤ a ∧ a ≤ 1000) ∧ (-1000 ≤ b ∧ b ≤ 1000) ∧ (-1000 ≤ c ∧ c ≤ 1000) ∧ (-1000 ≤ d ∧ d ≤ 1000) ∧ a * d - b * c = 1)
theorem isM_true {a b c d : Int} (h : isM a b c d = true) : (-1000 ≤ a ∧ a ≤ 1000) ∧ (-1000 ≤ b ∧ b ≤ 1000) ∧ (-1000 ≤ c ∧ c ≤ 1000) ∧ (-1000 ≤ d ∧ d ≤ 1000) ∧ a * d - b * c = 1 := of_decide_eq_true h
theorem det_w {a b c d : Int} (ha : -1000 ≤ a ∧ a ≤ 1000) (hb : -1000 ≤ b ∧ b ≤ 1000) (hc : -1000 ≤ c ∧ c ≤ 1000) (hd : -1000 ≤ d ∧ d ≤ 1000) : wrap64 ((wrap64 (a * d)) - (wrap64 (b * c))) = a * d - b * c := by
 have h1 := mulb ha.1 ha.2 hd.1 hd.2
 have h2 := mulb hb.1 hb.2 hc.1 hc.2
 rw [w_id (a := a * d) (by omega) (by omega), w_id (a := b * c) (by omega) (by omega), w_id (by omega) (by omega)]
theorem four_all (a b c d : Int) : ([a, b, c, d].all sm) = decide ((-1000 ≤ a ∧ a ≤ 1000) ∧ (-1000 ≤ b ∧ b ≤ 1000) ∧ (-1000 ≤ c ∧ c ≤ 1000) ∧ (-1000 ≤ d ∧ d ≤ 1000)) := by
 rw [Bool.eq_iff_iff]
 simp [List.all_cons, sm]
theorem isM_of {a b c d : Int} {t : Bool} (ht : t = decide ((-1000 ≤ a ∧ a ≤ 1000) ∧ (-1000 ≤ b ∧ b ≤ 1000) ∧ (-1000 ≤ c ∧ c ≤ 1000) ∧ (-1000 ≤ d ∧ d ≤ 1000))) :
  (if t = true then (some ((wrap64 ((wrap64 (a * d)) - (wrap64 (b * c)))) == 1)) else (some false)) = some (isM a b c d) := by
 subst ht
 by_cases h : (-1000 ≤ a ∧ a ≤ 1000) ∧ (-1000 ≤ b ∧ b ≤ 1000) ∧ (-1000 ≤ c ∧ c ≤ 1000) ∧ (-1000 ≤ d ∧ d ≤ 1000)
 ·rw [if_pos (decide_eq_true h), det_w h.1 h.2.1 h.2.2.1 h.2.2.2]
  unfold isM
  congr 1
  rw [Bool.eq_iff_iff]
  simp [h]
 ·rw [if_neg (by simpa using h)]
  unfold isM
  congr 1
  symm
  rw [decide_eq_false_iff_not]
  rintro ⟨h1, h2, h3, h4, _⟩
  exact h ⟨h1, h2, h3, h4⟩
theorem spec_isM (a b c d : Int) (k : Nat) (hk : 4 < k) : spec_IsMatrix.f k a b c d = some (isM a b c d) := by
 unfold spec_IsMatrix.f spec_l11Fits.f
 rw [show (0 : Int) = ((0 : Nat) : Int) from rfl, fits_l0 _ (by simp) 4 k 0 (by simp) hk, Option.bind_some, List.drop_zero]
 exact isM_of (four_all a b c d)
theorem impl_isM (a b c d : Int) (k : Nat) (hk : 4 < k) : impl_IsMatrix.f k a b c d = some (isM a b c d) := by
 unfold impl_IsMatrix.f impl_areSmall.f
 rw [show (0 : Int) = ((0 : Nat) : Int) from rfl, areSmall_l0 _ (by simp) 4 k 0 (by simp) hk, Option.bind_some, List.drop_zero]
 exact isM_of (four_all a b c d)
end Go.Proofs.YtnoiijdffdpabaaDoor.L

namespace Go.Proofs.YtnoiijdffdpabaaDoor.L
open Go.RowKit Go.Proofs.YtnoiijdffdpabaaDoor.P Go.Proofs.YtnoiijdffdpabaaDoor.Help Go.Proofs.YtnoiijdffdpabaaDoorW.PrintWords
set_option linter.unusedVariables false
set_option linter.unusedSimpArgs false

/-- The product of two matrices, if it is one. -/
def timesR (a b c d e f g h : Int) : Int × Int × Int × Int × Bool :=
 if isM a b c d = true ∧ isM e f g h = true ∧ isM (a * e + b * g) (a * f + b * h) (c * e + d * g) (c * f + d * h) = true then (a * e + b * g, a * f + b * h, c * e + d * g, c * f + d * h, true) else (0, 0, 0, 0, false)
theorem dot_w {a b e g : Int} (ha : -1000 ≤ a ∧ a ≤ 1000) (hb : -1000 ≤ b ∧ b ≤ 1000) (he : -1000 ≤ e ∧ e ≤ 1000) (hg : -1000 ≤ g ∧ g ≤ 1000) : wrap64 ((wrap64 (a * e)) + (wrap64 (b * g))) = a * e + b * g := by
 have h1 := mulb ha.1 ha.2 he.1 he.2
 have h2 := mulb hb.1 hb.2 hg.1 hg.2
 rw [w_id (a := a * e) (by omega) (by omega), w_id (a := b * g) (by omega) (by omega), w_id (by omega) (by omega)]
theorem spec_prod {a b c d e f g h : Int} (ha : -1000 ≤ a ∧ a ≤ 1000) (hb : -1000 ≤ b ∧ b ≤ 1000) (hc : -1000 ≤ c ∧ c ≤ 1000) (hd : -1000 ≤ d ∧ d ≤ 1000) (he : -1000 ≤ e ∧ e ≤ 1000) (hf : -1000 ≤ f ∧ f ≤ 1000) (hg : -1000 ≤ g ∧ g ≤ 1000) (hh : -1000 ≤ h ∧ h ≤ 1000) :
  spec_l13Times.f a b c d e f g h = some (a * e + b * g, a * f + b * h, c * e + d * g, c * f + d * h) := by
 unfold spec_l13Times.f
 rw [dot_w ha hb he hg, dot_w ha hb hf hh, dot_w hc hd he hg, dot_w hc hd hf hh]
theorem spec_times (a b c d e f g h : Int) (k : Nat) (hk : 4 < k) : spec_TimesMatrix.f k a b c d e f g h = some (timesR a b c d e f g h) := by
 unfold spec_TimesMatrix.f timesR
 rw [spec_isM _ _ _ _ _ hk, spec_isM _ _ _ _ _ hk, Option.bind_some, Option.bind_some]
 by_cases h1 : isM a b c d = true
 ·rw [if_pos h1]
  by_cases h2 : isM e f g h = true
  ·rw [if_pos h2]
   obtain ⟨ha, hb, hc, hd, _⟩ := isM_true h1
   obtain ⟨he, hf, hg, hh, _⟩ := isM_true h2
   rw [spec_prod ha hb hc hd he hf hg hh]
   simp only [Option.bind_some]
   rw [spec_isM _ _ _ _ _ hk, Option.bind_some]
   simp only [h1, h2, true_and]
   split <;> rfl
  ·rw [if_neg h2, if_neg (fun h => h2 h.2.1)]
 ·rw [if_neg h1, if_neg (fun h => h1 h.1)]
theorem impl_times (a b c d e f g h : Int) (k : Nat) (hk : 5 < k) : impl_TimesMatrix.f k a b c d e f g h = some (timesR a b c d e f g h) := by
 unfold impl_TimesMatrix.f timesR
 rw [impl_isM _ _ _ _ _ (by omega), impl_isM _ _ _ _ _ (by omega), Option.bind_some, Option.bind_some]
 obtain ⟨k, rfl⟩ : ∃ m, k = m + 1 := ⟨k - 1, by omega⟩
 simp only [impl_TimesMatrix.j0]
 by_cases h1 : isM a b c d = true
 ·rw [if_pos h1]
  by_cases h2 : isM e f g h = true
  ·obtain ⟨ha, hb, hc, hd, _⟩ := isM_true h1
   obtain ⟨he, hf, hg, hh, _⟩ := isM_true h2
   rw [dot_w ha hb he hg, dot_w ha hb hf hh, dot_w hc hd he hg, dot_w hc hd hf hh, impl_isM _ _ _ _ _ (by omega), Option.bind_some]
   simp only [h1, h2, true_and, Bool.not_true, Bool.false_eq_true, if_false]
   split <;> rfl
  ·rw [if_pos (by simpa using h2), if_neg (fun h => h2 h.2.1)]
 ·rw [if_neg h1, if_pos trivial, if_neg (fun h => h1 h.1)]
end Go.Proofs.YtnoiijdffdpabaaDoor.L

namespace Go.Proofs.YtnoiijdffdpabaaDoor.L
open Go.RowKit Go.Proofs.YtnoiijdffdpabaaDoor.P Go.Proofs.YtnoiijdffdpabaaDoor.Help Go.Proofs.YtnoiijdffdpabaaDoorW.PrintWords
set_option linter.unusedVariables false
set_option linter.unusedSimpArgs false

theorem l3Abs_eq {a : Int} (h0 : -9223372036854775807 ≤ a) (h1 : a ≤ 9223372036854775807) : spec_l3Abs.f a = some (a.natAbs : Int) := by
 unfold spec_l3Abs.f spec_l1Max.f
 rw [w_id (by omega) (by omega)]
 by_cases h : a > -a
 ·rw [if_pos h]; simp only [Option.bind_some]; congr 1; omega
 ·rw [if_neg h]; simp only [Option.bind_some]; congr 1; omega
theorem size_eq {a : Int} (h0 : -9223372036854775807 ≤ a) (h1 : a ≤ 9223372036854775807) : impl_size.f a = some (a.natAbs : Int) := by
 unfold impl_size.f
 rw [w_id (by omega) (by omega)]
 congr 1
 unfold mx
 split <;> omega
end Go.Proofs.YtnoiijdffdpabaaDoor.L

namespace Go.Proofs.YtnoiijdffdpabaaDoor.L
open Go.RowKit Go.Proofs.YtnoiijdffdpabaaDoor.P Go.Proofs.YtnoiijdffdpabaaDoor.Help Go.Proofs.YtnoiijdffdpabaaDoorW.PrintWords
set_option linter.unusedVariables false
set_option linter.unusedSimpArgs false

theorem gcd_step (a b : Int) (hb : b ≠ 0) : Int.gcd b (a.tmod b) = Int.gcd a b := by
 show Nat.gcd b.natAbs (a.tmod b).natAbs = Nat.gcd a.natAbs b.natAbs
 rw [Int.natAbs_tmod, Nat.gcd_comm a.natAbs b.natAbs, Nat.gcd_comm b.natAbs (a.natAbs % b.natAbs), ← Nat.gcd_rec]
theorem tmod_bd (a b : Int) (hb : b ≠ 0) : (a.tmod b).natAbs < b.natAbs := by
 rw [Int.natAbs_tmod]
 exact Nat.mod_lt _ (by omega)
theorem spec_gcd_l0 : ∀ (n k : Nat) (a b : Int), b.natAbs ≤ n → n < k → a.natAbs ≤ 9000000000000000000 → b.natAbs ≤ 9000000000000000000 → spec_l11Gcd.l0 k a b = some (Int.gcd a b : Int) := by
 intro n
 induction n with
 | zero =>
  intro k a b hb hk ha hB
  obtain ⟨k, rfl⟩ : ∃ m, k = m + 1 := ⟨k - 1, by omega⟩
  obtain rfl : b = 0 := by omega
  simp only [spec_l11Gcd.l0]
  rw [if_pos trivial, l3Abs_eq (by omega) (by omega), Option.bind_some, Int.gcd_zero_right]
 | succ n ih =>
  intro k a b hb hk ha hB
  obtain ⟨k, rfl⟩ : ∃ m, k = m + 1 := ⟨k - 1, by omega⟩
  simp only [spec_l11Gcd.l0]
  by_cases h : b = 0
  ·subst h
   rw [if_pos rfl, l3Abs_eq (by omega) (by omega), Option.bind_some, Int.gcd_zero_right]
  ·have := tmod_bd a b h
   rw [if_neg h, ih k b (a.tmod b) (by omega) (by omega) (by omega) (by omega), gcd_step a b h]
theorem impl_gcd_l0 : ∀ (n k : Nat) (a b : Int), b.natAbs ≤ n → n < k → 0 ≤ a → 0 ≤ b → impl_gcd.l0 k a b = some (Int.gcd a b : Int) := by
 intro n
 induction n with
 | zero =>
  intro k a b hb hk ha hB
  obtain ⟨k, rfl⟩ : ∃ m, k = m + 1 := ⟨k - 1, by omega⟩
  obtain rfl : b = 0 := by omega
  simp only [impl_gcd.l0]
  rw [if_pos trivial, Int.gcd_zero_right]
  congr 1
  omega
 | succ n ih =>
  intro k a b hb hk ha hB
  obtain ⟨k, rfl⟩ : ∃ m, k = m + 1 := ⟨k - 1, by omega⟩
  simp only [impl_gcd.l0]
  by_cases h : b = 0
  ·subst h
   rw [if_pos rfl, Int.gcd_zero_right]
   congr 1
   omega
  ·have := tmod_bd a b h
   rw [if_neg h, ih k b (a.tmod b) (by omega) (by omega) hB (Int.tmod_nonneg _ ha), gcd_step a b h]
theorem spec_gcd (a b : Int) (k : Nat) (hk : b.natAbs < k) (ha : a.natAbs ≤ 9000000000000000000) (hb : b.natAbs ≤ 9000000000000000000) : spec_l11Gcd.f k a b = some (Int.gcd a b : Int) := by
 unfold spec_l11Gcd.f
 exact spec_gcd_l0 _ k a b (Nat.le_refl _) hk ha hb
theorem impl_gcd_eq (a b : Int) (k : Nat) (hk : b.natAbs < k) (ha : a.natAbs ≤ 9000000000000000000) (hb : b.natAbs ≤ 9000000000000000000) : impl_gcd.f k a b = some (Int.gcd a b : Int) := by
 unfold impl_gcd.f
 rw [size_eq (by omega) (by omega), size_eq (by omega) (by omega), Option.bind_some, Option.bind_some, impl_gcd_l0 _ k _ _ (Nat.le_refl _) (by omega) (by omega) (by omega)]
 rfl
end Go.Proofs.YtnoiijdffdpabaaDoor.L


namespace Go.Proofs.YtnoiijdffdpabaaDoor.L
open Go.RowKit Go.Proofs.YtnoiijdffdpabaaDoor.P Go.Proofs.YtnoiijdffdpabaaDoor.Help Go.Proofs.YtnoiijdffdpabaaDoorW.PrintWords
set_option linter.unusedVariables false
set_option linter.unusedSimpArgs false

/-- A slope. -/
def isS (p q : Int) : Bool := decide ((-1000 ≤ p ∧ p ≤ 1000) ∧ (0 ≤ q ∧ q ≤ 1000) ∧ Int.gcd p q = 1 ∧ (q = 0 → p = 1))
theorem isS_true {p q : Int} (h : isS p q = true) : (-1000 ≤ p ∧ p ≤ 1000) ∧ (0 ≤ q ∧ q ≤ 1000) ∧ Int.gcd p q = 1 ∧ (q = 0 → p = 1) := of_decide_eq_true h
end Go.Proofs.YtnoiijdffdpabaaDoor.L

namespace Go.Proofs.YtnoiijdffdpabaaDoor.L
open Go.RowKit Go.Proofs.YtnoiijdffdpabaaDoor.P Go.Proofs.YtnoiijdffdpabaaDoor.Help Go.Proofs.YtnoiijdffdpabaaDoorW.PrintWords
set_option linter.unusedVariables false
set_option linter.unusedSimpArgs false

theorem spec_isS (p q : Int) (k : Nat) (hk : 1000 < k) : spec_IsSlope.f k p q = some (isS p q) := by
 unfold spec_IsSlope.f isS
 rw [l1In_eq, l1In_eq, Option.bind_some, Option.bind_some]
 by_cases h1 : -1000 ≤ p ∧ p ≤ 1000
 ·by_cases h2 : 0 ≤ q ∧ q ≤ 1000
  ·rw [if_pos (decide_eq_true h1), if_pos (decide_eq_true h2), spec_gcd p q k (by omega) (by omega) (by omega), Option.bind_some]
   by_cases h3 : q = 0
   ·subst h3
    rw [if_pos rfl]
    by_cases h4 : p = 1
    ·subst h4; rw [if_pos rfl]; decide
    ·rw [if_neg h4]; simp [h4]
   ·rw [if_neg h3]
    congr 1
    rw [Bool.eq_iff_iff]
    simp [h1, h2, h3]
    omega
  ·rw [if_pos (decide_eq_true h1), if_neg (by simpa using h2)]
   congr 1
   symm
   rw [decide_eq_false_iff_not]
   exact fun h => h2 h.2.1
 ·rw [if_neg (by simpa using h1)]
  congr 1
  symm
  rw [decide_eq_false_iff_not]
  exact fun h => h1 h.1
theorem impl_isS (p q : Int) (k : Nat) (hk : 1000 < k) : impl_IsSlope.f k p q = some (isS p q) := by
 unfold impl_IsSlope.f isS
 rw [within_eq, within_eq, Option.bind_some, Option.bind_some]
 by_cases h1 : -1000 ≤ p ∧ p ≤ 1000
 ·by_cases h2 : 0 ≤ q ∧ q ≤ 1000
  ·rw [if_pos (decide_eq_true h1), if_pos (decide_eq_true h2), impl_gcd_eq p q k (by omega) (by omega) (by omega), Option.bind_some]
   by_cases h5 : Int.gcd p q = 1
   ·rw [if_pos (by omega)]
    by_cases h3 : q = 0
    ·rw [if_neg (by omega)]
     congr 1
     rw [Bool.eq_iff_iff]
     simp [h1, h2, h3]
     intro h4
     subst h4
     decide
    ·rw [if_pos (by omega)]
     congr 1
     symm
     rw [decide_eq_true_iff]
     exact ⟨h1, h2, h5, fun h => absurd h h3⟩
   ·rw [if_neg (by omega)]
    congr 1
    symm
    rw [decide_eq_false_iff_not]
    exact fun h => h5 h.2.2.1
  ·rw [if_pos (decide_eq_true h1), if_neg (by simpa using h2)]
   congr 1
   symm
   rw [decide_eq_false_iff_not]
   exact fun h => h2 h.2.1
 ·rw [if_neg (by simpa using h1)]
  congr 1
  symm
  rw [decide_eq_false_iff_not]
  exact fun h => h1 h.1
end Go.Proofs.YtnoiijdffdpabaaDoor.L

namespace Go.Proofs.YtnoiijdffdpabaaDoor.L
open Go.RowKit Go.Proofs.YtnoiijdffdpabaaDoor.P Go.Proofs.YtnoiijdffdpabaaDoor.Help Go.Proofs.YtnoiijdffdpabaaDoorW.PrintWords
set_option linter.unusedVariables false
set_option linter.unusedSimpArgs false

/-- The slope of two numbers. -/
def slopeR (p q : Int) : Int × Int × Bool :=
 if (-1000 ≤ p ∧ p ≤ 1000) ∧ (-1000 ≤ q ∧ q ≤ 1000) ∧ ¬ (p = 0 ∧ q = 0) then
  if q < 0 ∨ (q = 0 ∧ p < 0) then (-(p.tdiv (Int.gcd p q)), -(q.tdiv (Int.gcd p q)), true) else (p.tdiv (Int.gcd p q), q.tdiv (Int.gcd p q), true)
 else (0, 0, false)
/-- Two numbers by their greatest common divisor. -/
theorem parts (p q : Int) (h : ¬ (p = 0 ∧ q = 0)) : ∃ g m n : Int, 0 < g ∧ (Int.gcd p q : Int) = g ∧ p = g * m ∧ q = g * n ∧ p.tdiv g = m ∧ q.tdiv g = n ∧ (n < 0 ↔ q < 0) ∧ (n = 0 ↔ q = 0) ∧ (m < 0 ↔ p < 0) ∧ (m = 0 ↔ p = 0) ∧ m.natAbs ≤ p.natAbs ∧ n.natAbs ≤ q.natAbs := by
 have hg : 0 < (Int.gcd p q : Int) := by
  have : Int.gcd p q ≠ 0 := fun h0 => h (Int.gcd_eq_zero_iff.1 h0)
  omega
 obtain ⟨m, hm⟩ := Int.gcd_dvd_left (a := p) (b := q)
 obtain ⟨n, hn⟩ := Int.gcd_dvd_right (a := p) (b := q)
 have sgn : ∀ x y : Int, y = (Int.gcd p q : Int) * x → (x < 0 ↔ y < 0) ∧ (x = 0 ↔ y = 0) ∧ x.natAbs ≤ y.natAbs ∧ y.tdiv (Int.gcd p q : Int) = x := by
  intro x y hy
  refine ⟨?_, ?_, ?_, ?_⟩
  ·constructor
   ·intro hx; rw [hy]; exact Int.mul_neg_of_pos_of_neg hg hx
   ·intro hlt
    rcases Int.lt_or_le x 0 with hx | hx
    ·exact hx
    ·have := Int.mul_nonneg (Int.le_of_lt hg) hx
     omega
  ·constructor
   ·intro hx; rw [hy, hx, Int.mul_zero]
   ·intro h0
    rw [hy] at h0
    rcases Int.mul_eq_zero.1 h0 with h1 | h1
    ·omega
    ·exact h1
  ·rw [hy, Int.natAbs_mul]
   exact Nat.le_mul_of_pos_left _ (by omega)
  ·rw [hy, Int.mul_tdiv_cancel_left _ (by omega)]
 obtain ⟨a1, a2, a3, a4⟩ := sgn m p hm
 obtain ⟨b1, b2, b3, b4⟩ := sgn n q hn
 exact ⟨_, m, n, hg, rfl, hm, hn, a4, b4, b1, b2, a1, a2, a3, b3⟩
theorem slopeR_no {p q : Int} (h : ¬ ((-1000 ≤ p ∧ p ≤ 1000) ∧ (-1000 ≤ q ∧ q ≤ 1000) ∧ ¬ (p = 0 ∧ q = 0))) : slopeR p q = (0, 0, false) := by
 unfold slopeR
 rw [if_neg h]
theorem slopeR_yes {p q : Int} (h : (-1000 ≤ p ∧ p ≤ 1000) ∧ (-1000 ≤ q ∧ q ≤ 1000) ∧ ¬ (p = 0 ∧ q = 0)) : slopeR p q = if q < 0 ∨ (q = 0 ∧ p < 0) then (-(p.tdiv (Int.gcd p q)), -(q.tdiv (Int.gcd p q)), true) else (p.tdiv (Int.gcd p q), q.tdiv (Int.gcd p q), true) := by
 unfold slopeR
 rw [if_pos h]
theorem spec_slope (p q : Int) (k : Nat) (hk : 1001 < k) : spec_SlopeOf.f k p q = some (slopeR p q) := by
 obtain ⟨k, rfl⟩ : ∃ m, k = m + 1 := ⟨k - 1, by omega⟩
 unfold spec_SlopeOf.f
 rw [l1In_eq, l1In_eq, Option.bind_some, Option.bind_some]
 by_cases h1 : -1000 ≤ p ∧ p ≤ 1000
 ·by_cases h2 : -1000 ≤ q ∧ q ≤ 1000
  ·rw [if_pos (decide_eq_true h1), if_pos (decide_eq_true h2)]
   by_cases h3 : p = 0 ∧ q = 0
   ·rw [slopeR_no (fun h => h.2.2 h3)]
    obtain ⟨rfl, rfl⟩ := h3
    simp [spec_SlopeOf.j0]
   ·rw [slopeR_yes ⟨h1, h2, h3⟩]
    have hj : (if p = 0 then spec_SlopeOf.j0 (k + 1) p q (q == 0) else spec_SlopeOf.j0 (k + 1) p q false) = spec_SlopeOf.j0 (k + 1) p q false := by
     split
     ·rename_i h4
      rw [show (q == 0) = false from by simpa using fun h5 => h3 ⟨h4, h5⟩]
     ·rfl
    rw [hj]
    simp only [spec_SlopeOf.j0]
    rw [if_neg (by decide), spec_gcd p q k (by omega) (by omega) (by omega), Option.bind_some]
    obtain ⟨g, m, n, hg, hge, hp, hq, dm, dn, s1, s2, s3, s4, b1, b2⟩ := parts p q h3
    rw [hge]
    have hgb : g ≤ 1000 := by
     have h5 : g.natAbs ≤ 1000 := by
      by_cases h0 : p = 0
      ·have : q ≠ 0 := fun h => h3 ⟨h0, h⟩
       have h6 : q.natAbs = g.natAbs * n.natAbs := by rw [hq, Int.natAbs_mul]
       have h7 : 0 < n.natAbs := by omega
       have := Nat.le_mul_of_pos_right g.natAbs h7
       omega
      ·have h6 : p.natAbs = g.natAbs * m.natAbs := by rw [hp, Int.natAbs_mul]
       have h7 : 0 < m.natAbs := by omega
       have := Nat.le_mul_of_pos_right g.natAbs h7
       omega
     omega
    rw [w_id (a := -g) (by omega) (by omega), Int.tdiv_neg, Int.tdiv_neg, dm, dn, w_id (a := m) (by omega) (by omega), w_id (a := n) (by omega) (by omega), w_id (a := -m) (by omega) (by omega), w_id (a := -n) (by omega) (by omega)]
    by_cases c1 : q < 0
    ·rw [if_pos c1, if_neg (by omega), if_pos (.inl c1)]
    ·rw [if_neg c1]
     by_cases c2 : q = 0
     ·rw [if_pos c2]
      by_cases c3 : p < 0
      ·rw [if_pos c3, if_neg (by omega), if_pos (.inr ⟨c2, c3⟩)]
      ·rw [if_neg c3, if_neg (by omega), if_neg (by omega)]
     ·rw [if_neg c2, if_neg (by omega), if_neg (by omega)]
  ·rw [if_pos (decide_eq_true h1), if_neg (by simpa using h2), slopeR_no (fun h => h2 h.2.1)]
   simp [spec_SlopeOf.j0]
 ·rw [if_neg (by simpa using h1), slopeR_no (fun h => h1 h.1)]
  simp [spec_SlopeOf.j0]
theorem slopeR_ok {p q : Int} (h1 : -1000 ≤ p ∧ p ≤ 1000) (h2 : -1000 ≤ q ∧ q ≤ 1000) (h3 : ¬ (p = 0 ∧ q = 0)) : (slopeR p q).2.2 = true := by
 unfold slopeR
 rw [if_pos ⟨h1, h2, h3⟩]
 split <;> rfl
theorem slopeR_zero : slopeR 0 0 = (0, 0, false) := by simp [slopeR]
end Go.Proofs.YtnoiijdffdpabaaDoor.L

namespace Go.Proofs.YtnoiijdffdpabaaDoor.L
open Go.RowKit Go.Proofs.YtnoiijdffdpabaaDoor.P Go.Proofs.YtnoiijdffdpabaaDoor.Help Go.Proofs.YtnoiijdffdpabaaDoorW.PrintWords
set_option linter.unusedVariables false
set_option linter.unusedSimpArgs false

theorem impl_lowest_eq (p q : Int) (k : Nat) (hk : 1000 < k) (h1 : -1000 ≤ p ∧ p ≤ 1000) (h2 : -1000 ≤ q ∧ q ≤ 1000) (h3 : ¬ (p = 0 ∧ q = 0)) : impl_lowest.f k p q = some ((slopeR p q).1, (slopeR p q).2.1) := by
 unfold impl_lowest.f
 rw [slopeR_yes ⟨h1, h2, h3⟩, impl_gcd_eq p q k (by omega) (by omega) (by omega), Option.bind_some]
 obtain ⟨g, m, n, hg, hge, hp, hq, dm, dn, s1, s2, s3, s4, b1, b2⟩ := parts p q h3
 rw [hge, dm, dn, if_neg (by omega), w_id (a := m) (by omega) (by omega), w_id (a := n) (by omega) (by omega), w_id (a := -m) (by omega) (by omega), w_id (a := -n) (by omega) (by omega)]
 by_cases c1 : q < 0
 ·rw [if_pos (s1.2 c1), if_pos (.inl c1)]
 ·rw [if_neg (fun h => c1 (s1.1 h))]
  by_cases c2 : q = 0
  ·rw [if_pos (s2.2 c2)]
   by_cases c3 : p < 0
   ·rw [if_pos (s3.2 c3), if_pos (.inr ⟨c2, c3⟩)]
   ·rw [if_neg (fun h => c3 (s3.1 h)), if_neg (by omega)]
  ·rw [if_neg (fun h => c2 (s2.1 h)), if_neg (by omega)]
theorem impl_slope (p q : Int) (k : Nat) (hk : 1000 < k) : impl_SlopeOf.f k p q = some (slopeR p q) := by
 unfold impl_SlopeOf.f
 rw [within_eq, within_eq, Option.bind_some, Option.bind_some]
 by_cases h3 : p = 0 ∧ q = 0
 ·obtain ⟨rfl, rfl⟩ := h3
  rw [if_pos rfl, if_pos rfl]
  simp [slopeR]
 ·have key : (if decide (-1000 ≤ p ∧ p ≤ 1000) = true then (if decide (-1000 ≤ q ∧ q ≤ 1000) = true then ((impl_lowest.f k p q).bind fun b => (some (b.1, b.2, true))) else (some (0, 0, false))) else (some (0, 0, false))) = some (slopeR p q) := by
   by_cases h1 : -1000 ≤ p ∧ p ≤ 1000
   ·by_cases h2 : -1000 ≤ q ∧ q ≤ 1000
    ·rw [if_pos (decide_eq_true h1), if_pos (decide_eq_true h2), impl_lowest_eq p q k hk h1 h2 h3, Option.bind_some]
     have := slopeR_ok h1 h2 h3
     congr 1
     rw [← this]
    ·rw [if_pos (decide_eq_true h1), if_neg (by simpa using h2)]
     rw [slopeR_no (fun h => h2 h.2.1)]
   ·rw [if_neg (by simpa using h1)]
    rw [slopeR_no (fun h => h1 h.1)]
  by_cases h0 : p = 0
  ·rw [if_pos h0, if_neg (fun h => h3 ⟨h0, h⟩)]
   exact key
  ·rw [if_neg h0]
   exact key
end Go.Proofs.YtnoiijdffdpabaaDoor.L

namespace Go.Proofs.YtnoiijdffdpabaaDoor.L
open Go.RowKit Go.Proofs.YtnoiijdffdpabaaDoor.P Go.Proofs.YtnoiijdffdpabaaDoor.Help Go.Proofs.YtnoiijdffdpabaaDoorW.PrintWords
set_option linter.unusedVariables false
set_option linter.unusedSimpArgs false

def moveR (a b c d p q : Int) : Int × Int × Bool := if isM a b c d = true ∧ isS p q = true then slopeR (a * p + b * q) (c * p + d * q) else (0, 0, false)
theorem spec_move (a b c d p q : Int) (k : Nat) (hk : 1001 < k) : spec_MoveSlope.f k a b c d p q = some (moveR a b c d p q) := by
 unfold spec_MoveSlope.f moveR
 rw [spec_isM _ _ _ _ _ (by omega), spec_isS _ _ _ (by omega), Option.bind_some, Option.bind_some]
 by_cases h : isM a b c d = true
 ·rw [if_pos h]
  by_cases h2 : isS p q = true
  ·obtain ⟨ha, hb, hc, hd, _⟩ := isM_true h
   obtain ⟨hp, hq, _⟩ := isS_true h2
   rw [if_pos h2, if_pos ⟨h, h2⟩, dot_w ha hb hp (by omega), dot_w hc hd hp (by omega), spec_slope _ _ _ hk]
   rfl
  ·rw [if_neg h2, if_neg (fun h => h2 h.2)]
 ·rw [if_neg h, if_neg (fun h' => h h'.1)]
theorem impl_move (a b c d p q : Int) (k : Nat) (hk : 1001 < k) : impl_MoveSlope.f k a b c d p q = some (moveR a b c d p q) := by
 unfold impl_MoveSlope.f moveR
 rw [impl_isM _ _ _ _ _ (by omega), impl_isS _ _ _ (by omega), Option.bind_some, Option.bind_some]
 by_cases h : isM a b c d = true
 ·rw [if_pos h]
  by_cases h2 : isS p q = true
  ·obtain ⟨ha, hb, hc, hd, _⟩ := isM_true h
   obtain ⟨hp, hq, _⟩ := isS_true h2
   rw [if_pos h2, if_pos ⟨h, h2⟩, dot_w ha hb hp (by omega), dot_w hc hd hp (by omega), impl_slope _ _ _ (by omega)]
   rfl
  ·rw [if_neg h2, if_neg (fun h => h2 h.2)]
 ·rw [if_neg h, if_neg (fun h' => h h'.1)]
end Go.Proofs.YtnoiijdffdpabaaDoor.L


namespace Go.Proofs.YtnoiijdffdpabaaDoor.L
open Go.RowKit Go.Proofs.YtnoiijdffdpabaaDoor.P Go.Proofs.YtnoiijdffdpabaaDoor.Help Go.Proofs.YtnoiijdffdpabaaDoorW.PrintWords
set_option linter.unusedVariables false
set_option linter.unusedSimpArgs false
/-- A vector without a common divisor is a slope, or its other side is. -/
theorem slope_prim {p q : Int} (hp : -1000 ≤ p ∧ p ≤ 1000) (hq : -1000 ≤ q ∧ q ≤ 1000) (hg : Int.gcd p q = 1) : ∃ e : Int, (e = 1 ∨ e = -1) ∧ slopeR p q = (e * p, e * q, true) ∧ isS (e * p) (e * q) = true := by
 have h0 : ¬ (p = 0 ∧ q = 0) := by
  rintro ⟨rfl, rfl⟩
  revert hg
  decide
 rw [slopeR_yes ⟨hp, hq, h0⟩, hg]
 have key : ∀ e : Int, (e = 1 ∨ e = -1) → 0 ≤ e * q → (e * q = 0 → 0 ≤ e * p) → isS (e * p) (e * q) = true := by
  intro e he h1 h2
  unfold isS
  apply decide_eq_true
  have b1 : (e * p).natAbs = p.natAbs := by rcases he with rfl | rfl <;> simp
  have b2 : (e * q).natAbs = q.natAbs := by rcases he with rfl | rfl <;> simp
  refine ⟨by omega, by omega, ?_, ?_⟩
  ·unfold Int.gcd at *
   rw [b1, b2]
   exact hg
  ·intro h3
   have h4 : q = 0 := by omega
   subst h4
   have h5 : p.natAbs = 1 := by simpa [Int.gcd] using hg
   have := h2 h3
   omega
 by_cases c : q < 0 ∨ (q = 0 ∧ p < 0)
 ·rw [if_pos c]
  refine ⟨-1, .inr rfl, ?_, key (-1) (.inr rfl) (by omega) (by omega)⟩
  simp
 ·rw [if_neg c]
  refine ⟨1, .inl rfl, ?_, key 1 (.inl rfl) (by omega) (by omega)⟩
  simp
theorem slope_self {p q : Int} (h : isS p q = true) : slopeR p q = (p, q, true) := by
 obtain ⟨h1, h2, h3, h4⟩ := isS_true h
 have h0 : ¬ (p = 0 ∧ q = 0) := by
  rintro ⟨rfl, rfl⟩
  have := h4 rfl
  omega
 rw [slopeR_yes ⟨h1, by omega, h0⟩, h3, if_neg (by omega)]
 simp
/-- A matrix moves a slope to a slope, or to its other side. -/
theorem move_facts {a b c d p q : Int} (h : (moveR a b c d p q).2.2 = true) : a * d - b * c = 1 ∧ isS p q = true ∧ isS (moveR a b c d p q).1 (moveR a b c d p q).2.1 = true ∧ ∃ e : Int, (e = 1 ∨ e = -1) ∧ (moveR a b c d p q).1 = e * (a * p + b * q) ∧ (moveR a b c d p q).2.1 = e * (c * p + d * q) := by
 unfold moveR at *
 split at h
 ·rename_i hm
  rw [if_pos hm]
  have hd := (isM_true hm.1).2.2.2.2
  refine ⟨hd, hm.2, ?_⟩
  have hg : Int.gcd (a * p + b * q) (c * p + d * q) = 1 := by
   have h1 : (Int.gcd (a * p + b * q) (c * p + d * q) : Int) ∣ (a * p + b * q) := Int.gcd_dvd_left ..
   have h2 : (Int.gcd (a * p + b * q) (c * p + d * q) : Int) ∣ (c * p + d * q) := Int.gcd_dvd_right ..
   have e1 : d * (a * p + b * q) - b * (c * p + d * q) = p := by
    have : d * (a * p + b * q) - b * (c * p + d * q) = (a * d - b * c) * p := by grind
    rw [this, hd, Int.one_mul]
   have e2 : a * (c * p + d * q) - c * (a * p + b * q) = q := by
    have : a * (c * p + d * q) - c * (a * p + b * q) = (a * d - b * c) * q := by grind
    rw [this, hd, Int.one_mul]
   have d1 := Int.dvd_sub (Int.dvd_mul_of_dvd_right (b := d) h1) (Int.dvd_mul_of_dvd_right (b := b) h2)
   have d2 := Int.dvd_sub (Int.dvd_mul_of_dvd_right (b := a) h2) (Int.dvd_mul_of_dvd_right (b := c) h1)
   rw [e1] at d1
   rw [e2] at d2
   have := Int.dvd_coe_gcd d1 d2
   rw [(isS_true hm.2).2.2.1] at this
   have h3 := Int.natAbs_dvd_natAbs.2 this
   simpa using h3
  by_cases c0 : (-1000 ≤ a * p + b * q ∧ a * p + b * q ≤ 1000) ∧ (-1000 ≤ c * p + d * q ∧ c * p + d * q ≤ 1000) ∧ ¬ (a * p + b * q = 0 ∧ c * p + d * q = 0)
  ·obtain ⟨e, he, e1, e2⟩ := slope_prim c0.1 c0.2.1 hg
   rw [e1]
   exact ⟨e2, e, he, rfl, rfl⟩
  ·rw [slopeR_no c0] at h
   cases h
 ·cases h
theorem sameS {p q r s : Int} (h1 : isS p q = true) (h2 : isS r s = true) (h : p * s = q * r) : p = r ∧ q = s := by
 obtain ⟨a1, a2, a3, a4⟩ := isS_true h1
 obtain ⟨b1, b2, b3, b4⟩ := isS_true h2
 have d1 : q ∣ s := by
  have h5 := Int.natAbs_dvd_natAbs.2 (⟨r, h⟩ : q ∣ p * s)
  rw [Int.natAbs_mul] at h5
  exact Int.natAbs_dvd_natAbs.1 (Nat.Coprime.dvd_of_dvd_mul_left (show Nat.gcd q.natAbs p.natAbs = 1 from (Nat.gcd_comm _ _).trans a3) h5)
 have d2 : s ∣ q := by
  have h5 := Int.natAbs_dvd_natAbs.2 (⟨p, by rw [Int.mul_comm r q, ← h, Int.mul_comm]⟩ : s ∣ r * q)
  rw [Int.natAbs_mul] at h5
  exact Int.natAbs_dvd_natAbs.1 (Nat.Coprime.dvd_of_dvd_mul_left (show Nat.gcd s.natAbs r.natAbs = 1 from (Nat.gcd_comm _ _).trans b3) h5)
 have hqs : q = s := Int.dvd_antisymm a2.1 b2.1 d1 d2
 subst hqs
 refine ⟨?_, rfl⟩
 by_cases h0 : q = 0
 ·rw [a4 h0, b4 h0]
 ·rw [Int.mul_comm q r] at h
  exact Int.eq_of_mul_eq_mul_right h0 h
end Go.Proofs.YtnoiijdffdpabaaDoor.L

namespace Go.Proofs.YtnoiijdffdpabaaDoor.L
open Go.RowKit Go.Proofs.YtnoiijdffdpabaaDoor.P Go.Proofs.YtnoiijdffdpabaaDoor.Help Go.Proofs.YtnoiijdffdpabaaDoorW.PrintWords
set_option linter.unusedVariables false
set_option linter.unusedSimpArgs false

def ba (l : List UInt8) : ByteArray := ⟨l.toArray⟩
theorem ba_size (l : List UInt8) : (ba l).size = l.length := by simp [ba, ByteArray.size]
theorem ba_append (l m : List UInt8) : ba l ++ ba m = ba (l ++ m) := by
 apply ByteArray.ext
 simp [ba, ByteArray.data_append]
/-- The turns that move 1 / 1 to a slope. -/
def tw : Nat → Int → Int → List UInt8
 | 0, _, _ => []
 | n + 1, p, q => if p = q then [] else if p > q then 82 :: tw n (p - q) q else 76 :: tw n p (q - p)
theorem spec_tw : ∀ (n k : Nat) (l : List UInt8) (p q : Int), 1 ≤ p → 1 ≤ q → p + q ≤ n → n < k → l.length + n ≤ 1000000000 → spec_TurnsTo.l0 k (ba l) p q = some (ba (if l.length + (tw n p q).length > 24 then [] else l ++ tw n p q)) := by
 intro n
 induction n with
 | zero => intro k l p q hp hq hn; omega
 | succ n ih =>
  intro k l p q hp hq hn hk hl
  obtain ⟨k, rfl⟩ : ∃ m, k = m + 1 := ⟨k - 1, by omega⟩
  unfold spec_TurnsTo.l0 tw
  rw [ba_size]
  by_cases h : p = q
  ·rw [if_pos h, if_pos h]
   simp only [List.length_nil, Nat.add_zero, List.append_nil]
   by_cases h2 : l.length > 24
   ·rw [if_pos (by omega), if_pos h2]; rfl
   ·rw [if_neg (by omega), if_neg h2]
  ·rw [if_neg h, if_neg h]
   by_cases h3 : p > q
   ·rw [if_pos h3, if_pos h3, if_pos (by omega), w_id (by omega) (by omega), show (⟨#[82]⟩ : ByteArray) = ba [82] from rfl, ba_append, ih k _ _ _ (by omega) hq (by omega) (by omega) (by simp; omega)]
    simp only [List.length_append, List.length_cons, List.length_nil, List.append_assoc, List.cons_append, List.nil_append]
    rw [show l.length + (0 + 1) + (tw n (p - q) q).length = l.length + ((tw n (p - q) q).length + 1) by omega]
   ·rw [if_neg h3, if_neg h3, if_pos (by omega), w_id (by omega) (by omega), show (⟨#[76]⟩ : ByteArray) = ba [76] from rfl, ba_append, ih k _ _ _ hp (by omega) (by omega) (by omega) (by simp; omega)]
    simp only [List.length_append, List.length_cons, List.length_nil, List.append_assoc, List.cons_append, List.nil_append]
    rw [show l.length + (0 + 1) + (tw n p (q - p)).length = l.length + ((tw n p (q - p)).length + 1) by omega]
theorem impl_tw : ∀ (n k : Nat) (l : List UInt8) (p q : Int), 1 ≤ p → 1 ≤ q → p + q ≤ n → n < k → n ≤ 1000000000 → l.length ≤ 24 → impl_TurnsTo.l0 k (ba l) p q = some (ba (if l.length + (tw n p q).length > 24 then [] else l ++ tw n p q)) := by
 intro n
 induction n with
 | zero => intro k l p q hp hq hn; omega
 | succ n ih =>
  intro k l p q hp hq hn hk hn2 hl
  obtain ⟨k, rfl⟩ : ∃ m, k = m + 1 := ⟨k - 1, by omega⟩
  unfold impl_TurnsTo.l0 tw
  rw [ba_size]
  by_cases h : p = q
  ·rw [if_pos h, if_pos h]
   simp only [List.length_nil, Nat.add_zero, List.append_nil]
   rw [if_neg (by omega)]
  ·rw [if_neg h, if_neg h]
   by_cases h4 : l.length = 24
   ·rw [if_pos (by omega), if_pos (by split <;> simp <;> omega)]
    rfl
   ·rw [if_neg (by omega)]
    by_cases h3 : p > q
    ·rw [if_pos h3, if_pos h3, if_pos (by omega), w_id (by omega) (by omega), show (⟨#[82]⟩ : ByteArray) = ba [82] from rfl, ba_append, ih k _ _ _ (by omega) hq (by omega) (by omega) (by omega) (by simp; omega)]
     simp only [List.length_append, List.length_cons, List.length_nil, List.append_assoc, List.cons_append, List.nil_append]
     rw [show l.length + (0 + 1) + (tw n (p - q) q).length = l.length + ((tw n (p - q) q).length + 1) by omega]
    ·rw [if_neg h3, if_neg h3, if_pos (by omega), w_id (by omega) (by omega), show (⟨#[76]⟩ : ByteArray) = ba [76] from rfl, ba_append, ih k _ _ _ hp (by omega) (by omega) (by omega) (by omega) (by simp; omega)]
     simp only [List.length_append, List.length_cons, List.length_nil, List.append_assoc, List.cons_append, List.nil_append]
     rw [show l.length + (0 + 1) + (tw n p (q - p)).length = l.length + ((tw n p (q - p)).length + 1) by omega]
def turnsToL (p q : Int) : List UInt8 := if isS p q = true ∧ 1 ≤ p ∧ 1 ≤ q then (if (tw 2000 p q).length > 24 then [] else tw 2000 p q) else []
theorem spec_turnsTo (p q : Int) (k : Nat) (hk : 2001 < k) : spec_TurnsTo.f k p q = some (ba (turnsToL p q)) := by
 obtain ⟨k, rfl⟩ : ∃ m, k = m + 1 := ⟨k - 1, by omega⟩
 unfold spec_TurnsTo.f turnsToL
 rw [spec_isS _ _ _ (by omega), Option.bind_some]
 by_cases h : isS p q = true
 ·rw [if_pos h]
  by_cases h1 : p < 1
  ·rw [if_pos h1, if_neg (fun h => by omega)]
   simp [spec_TurnsTo.j0, ba]
  ·rw [if_neg h1]
   simp only [spec_TurnsTo.j0, decide_eq_true_eq]
   by_cases h2 : q < 1
   ·rw [if_pos h2, if_neg (fun h => by omega)]
    rfl
   ·rw [if_neg h2, if_pos ⟨h, by omega, by omega⟩]
    obtain ⟨b1, b2, _⟩ := isS_true h
    have := spec_tw 2000 k [] p q (by omega) (by omega) (by omega) (by omega) (by simp)
    simpa [ba] using this
 ·rw [if_neg h, if_neg (fun h' => h h'.1)]
  simp [spec_TurnsTo.j0, ba]
theorem impl_turnsTo (p q : Int) (k : Nat) (hk : 2001 < k) : impl_TurnsTo.f k p q = some (ba (turnsToL p q)) := by
 obtain ⟨k, rfl⟩ : ∃ m, k = m + 1 := ⟨k - 1, by omega⟩
 unfold impl_TurnsTo.f turnsToL
 rw [impl_isS _ _ _ (by omega), Option.bind_some]
 by_cases h : isS p q = true
 ·rw [if_pos h]
  by_cases h1 : p < 1
  ·rw [if_pos h1, if_neg (fun h => by omega)]
   simp [impl_TurnsTo.j0, ba]
  ·rw [if_neg h1]
   simp only [impl_TurnsTo.j0, decide_eq_true_eq]
   by_cases h2 : q < 1
   ·rw [if_pos h2, if_neg (fun h => by omega)]
    rfl
   ·rw [if_neg h2, if_pos ⟨h, by omega, by omega⟩]
    obtain ⟨b1, b2, _⟩ := isS_true h
    have := impl_tw 2000 k [] p q (by omega) (by omega) (by omega) (by omega) (by omega) (by simp)
    simpa [ba] using this
 ·rw [if_neg h, if_neg (fun h' => h h'.1)]
  simp [impl_TurnsTo.j0, ba]
end Go.Proofs.YtnoiijdffdpabaaDoor.L

namespace Go.Proofs.YtnoiijdffdpabaaDoor.L
open Go.RowKit Go.Proofs.YtnoiijdffdpabaaDoor.P Go.Proofs.YtnoiijdffdpabaaDoor.Help Go.Proofs.YtnoiijdffdpabaaDoorW.PrintWords
set_option linter.unusedVariables false
set_option linter.unusedSimpArgs false

def turnM (x : Int) : Int × Int × Int × Int := if x = 82 then (1, 1, 0, 1) else if x = 76 then (1, 0, 1, 1) else if x = 114 then (1, -1, 0, 1) else if x = 108 then (1, 0, -1, 1) else (0, 0, 0, 0)
theorem spec_turn (x : Int) : spec_l13Turn.f x = some (turnM x) := by
 unfold spec_l13Turn.f turnM
 repeat' split
 all_goals rfl
/-- The product of the turns of a text from a place on. -/
def tofI (s : ByteArray) : Nat → Nat → Int → Int → Int → Int → Int × Int × Int × Int × Bool
 | 0, _, a, b, c, d => (a, b, c, d, true)
 | n + 1, i, a, b, c, d =>
  if (timesR a b c d (turnM (bt s i)).1 (turnM (bt s i)).2.1 (turnM (bt s i)).2.2.1 (turnM (bt s i)).2.2.2).2.2.2.2 = true then
   tofI s n (i + 1) (timesR a b c d (turnM (bt s i)).1 (turnM (bt s i)).2.1 (turnM (bt s i)).2.2.1 (turnM (bt s i)).2.2.2).1 (timesR a b c d (turnM (bt s i)).1 (turnM (bt s i)).2.1 (turnM (bt s i)).2.2.1 (turnM (bt s i)).2.2.2).2.1 (timesR a b c d (turnM (bt s i)).1 (turnM (bt s i)).2.1 (turnM (bt s i)).2.2.1 (turnM (bt s i)).2.2.2).2.2.1 (timesR a b c d (turnM (bt s i)).1 (turnM (bt s i)).2.1 (turnM (bt s i)).2.2.1 (turnM (bt s i)).2.2.2).2.2.2.1
  else (0, 0, 0, 0, false)
theorem spec_tofI (s : ByteArray) (hs : s.size ≤ 24) : ∀ (n k i : Nat) (a b c d : Int), i + n = s.size → 2 * n + 8 < k → spec_TurnsOf.l0 k s (i : Int) a b c d = some (tofI s n i a b c d) := by
 intro n
 induction n with
 | zero =>
  intro k i a b c d hi hk
  obtain ⟨k, rfl⟩ : ∃ m, k = m + 2 := ⟨k - 2, by omega⟩
  simp only [spec_TurnsOf.l0, spec_TurnsOf.j1, tofI]
  rw [if_neg (by omega), if_neg (by decide), if_neg (by omega)]
 | succ n ih =>
  intro k i a b c d hi hk
  obtain ⟨k, rfl⟩ : ∃ m, k = m + 2 := ⟨k - 2, by omega⟩
  simp only [spec_TurnsOf.l0, spec_TurnsOf.j1, tofI]
  rw [if_pos (by omega), if_pos (decide_eq_true (by omega)), if_pos (by omega), if_pos (by omega), spec_turn, Option.bind_some, spec_times _ _ _ _ _ _ _ _ _ (by omega), Option.bind_some]
  split
  ·rw [w_id (by omega) (by omega), show ((i : Int) + 1) = ((i + 1 : Nat) : Int) by omega, ih k (i + 1) _ _ _ _ (by omega) (by omega)]
  ·rfl
theorem impl_turn (x : Int) : (impl_turnOf.f x = some ((turnM x).1, (turnM x).2.1, (turnM x).2.2.1, (turnM x).2.2.2, true)) ∨ (impl_turnOf.f x = some (0, 0, 0, 0, false) ∧ turnM x = (0, 0, 0, 0)) := by
 unfold impl_turnOf.f turnM
 by_cases h1 : x = 82
 ·left; simp [h1]
 ·by_cases h2 : x = 76
  ·left; simp [h2]
  ·by_cases h3 : x = 114
   ·left; simp [h3]
   ·by_cases h4 : x = 108
    ·left; simp [h4]
    ·right; simp [h1, h2, h3, h4]
theorem timesR_zero (a b c d : Int) : timesR a b c d 0 0 0 0 = (0, 0, 0, 0, false) := by
 unfold timesR
 rw [if_neg (fun h => absurd h.2.1 (by decide))]
theorem impl_tofI (s : ByteArray) (hs : s.size ≤ 24) : ∀ (n k i : Nat) (a b c d : Int), i + n = s.size → n + 8 < k → impl_TurnsOf.l0 k s (s.size : Int) (i : Int) a b c d = some (tofI s n i a b c d) := by
 intro n
 induction n with
 | zero =>
  intro k i a b c d hi hk
  obtain ⟨k, rfl⟩ : ∃ m, k = m + 1 := ⟨k - 1, by omega⟩
  simp only [impl_TurnsOf.l0, tofI]
  rw [if_neg (by omega)]
 | succ n ih =>
  intro k i a b c d hi hk
  obtain ⟨k, rfl⟩ : ∃ m, k = m + 1 := ⟨k - 1, by omega⟩
  simp only [impl_TurnsOf.l0, tofI]
  rw [if_pos (by omega), if_pos (by omega), if_pos (by omega)]
  rcases impl_turn (bt s i) with h | ⟨h, h2⟩
  ·rw [h, Option.bind_some]
   simp only
   rw [if_pos trivial, impl_times _ _ _ _ _ _ _ _ _ (by omega), Option.bind_some]
   split
   ·rw [w_id (by omega) (by omega), show ((i : Int) + 1) = ((i + 1 : Nat) : Int) by omega, ih k (i + 1) _ _ _ _ (by omega) (by omega)]
   ·rfl
  ·rw [h, h2, Option.bind_some]
   simp only [timesR_zero]
   simp
def turnsOfR (s : ByteArray) : Int × Int × Int × Int × Bool := if s.size > 24 then (0, 0, 0, 0, false) else tofI s s.size 0 1 0 0 1
theorem spec_turnsOf (s : ByteArray) (hsz : s.size ≤ 9000000000000000000) (k : Nat) (hk : 60 < k) : spec_TurnsOf.f k s = some (turnsOfR s) := by
 unfold spec_TurnsOf.f turnsOfR
 by_cases h : s.size > 24
 ·rw [if_pos h]
  obtain ⟨k, rfl⟩ : ∃ m, k = m + 2 := ⟨k - 2, by omega⟩
  simp only [spec_TurnsOf.l0, spec_TurnsOf.j1]
  rw [if_pos (by omega), if_neg (by simp; omega), if_pos (by omega)]
 ·rw [if_neg h]
  exact spec_tofI s (by omega) s.size k 0 1 0 0 1 (by omega) (by omega)
theorem impl_turnsOf (s : ByteArray) (hsz : s.size ≤ 9000000000000000000) (k : Nat) (hk : 60 < k) : impl_TurnsOf.f k s = some (turnsOfR s) := by
 unfold impl_TurnsOf.f turnsOfR impl_one.f
 by_cases h : s.size > 24
 ·rw [if_pos h, if_pos (by omega)]
 ·rw [if_neg h, if_neg (by omega), Option.bind_some]
  exact impl_tofI s (by omega) s.size k 0 1 0 0 1 (by omega) (by omega)
end Go.Proofs.YtnoiijdffdpabaaDoor.L

namespace Go.Proofs.YtnoiijdffdpabaaDoor.L
open Go.RowKit Go.Proofs.YtnoiijdffdpabaaDoor.P Go.Proofs.YtnoiijdffdpabaaDoor.Help Go.Proofs.YtnoiijdffdpabaaDoorW.PrintWords
set_option linter.unusedVariables false
set_option linter.unusedSimpArgs false

/-- The kind of a matrix. -/
def kindB (a b c d : Int) : ByteArray :=
 if isM a b c d = true then
  if b = 0 ∧ c = 0 then ⟨#[105, 100, 101, 110, 116, 105, 116, 121]⟩
  else if -1 ≤ a + d ∧ a + d ≤ 1 then ⟨#[112, 101, 114, 105, 111, 100, 105, 99]⟩
  else if a + d = 2 ∨ a + d = -2 then ⟨#[116, 119, 105, 115, 116]⟩ else ⟨#[115, 116, 114, 101, 116, 99, 104]⟩
 else ⟨#[]⟩
theorem spec_kind (a b c d : Int) (k : Nat) (hk : 4 < k) : spec_KindOf.f k a b c d = some (kindB a b c d) := by
 obtain ⟨k, rfl⟩ : ∃ m, k = m + 1 := ⟨k - 1, by omega⟩
 unfold spec_KindOf.f kindB
 rw [spec_isM _ _ _ _ _ hk, Option.bind_some]
 by_cases h : isM a b c d = true
 ·rw [if_pos h, if_pos h]
  obtain ⟨ha, hb, hc, hd, hdet⟩ := isM_true h
  have hw : wrap64 (a + d) = a + d := w_id (by omega) (by omega)
  simp only [spec_KindOf.j0, l1In_eq, hw, Option.bind_some, decide_eq_true_eq, beq_iff_eq, Bool.false_eq_true, if_false]
  by_cases h1 : b = 0
  ·by_cases h2 : c = 0
   ·simp [h1, h2]
   ·simp only [h1, h2, if_true, if_false, and_false]
    by_cases h3 : -1 ≤ a + d ∧ a + d ≤ 1
    ·rw [if_pos h3, if_pos h3]
    ·rw [if_neg h3, if_neg h3]
     by_cases h4 : -2 ≤ a + d ∧ a + d ≤ 2
     ·rw [if_pos h4, if_pos (by omega)]
     ·rw [if_neg h4, if_neg (by omega)]
  ·simp only [h1, if_false, false_and]
   by_cases h3 : -1 ≤ a + d ∧ a + d ≤ 1
   ·rw [if_pos h3, if_pos h3]
   ·rw [if_neg h3, if_neg h3]
    by_cases h4 : -2 ≤ a + d ∧ a + d ≤ 2
    ·rw [if_pos h4, if_pos (by omega)]
    ·rw [if_neg h4, if_neg (by omega)]
 ·rw [if_neg h, if_neg h]
theorem impl_kind (a b c d : Int) (k : Nat) (hk : 4 < k) : impl_KindOf.f k a b c d = some (kindB a b c d) := by
 obtain ⟨k, rfl⟩ : ∃ m, k = m + 1 := ⟨k - 1, by omega⟩
 unfold impl_KindOf.f kindB impl_one.f
 rw [impl_isM _ _ _ _ _ hk, Option.bind_some]
 by_cases h : isM a b c d = true
 ·rw [if_pos h, if_pos h]
  obtain ⟨ha, hb, hc, hd, hdet⟩ := isM_true h
  have hw : wrap64 (a + d) = a + d := w_id (by omega) (by omega)
  have hid : (b = 0 ∧ c = 0) ↔ ((a = 1 ∧ b = 0 ∧ c = 0 ∧ d = 1) ∨ (a = -1 ∧ b = 0 ∧ c = 0 ∧ d = -1)) := by
   constructor
   ·rintro ⟨rfl, rfl⟩
    have h1 : a * d = 1 := by simpa using hdet
    rcases unit_of h1 with rfl | rfl
    ·left; refine ⟨rfl, rfl, rfl, by omega⟩
    ·right; refine ⟨rfl, rfl, rfl, by omega⟩
   ·rintro (⟨_, h1, h2, _⟩ | ⟨_, h1, h2, _⟩) <;> exact ⟨h1, h2⟩
  simp only [impl_KindOf.j0, within_eq, hw, Option.bind_some, decide_eq_true_eq, Bool.and_eq_true, beq_iff_eq]
  by_cases h1 : a = 1 ∧ b = 0 ∧ c = 0 ∧ d = 1
  ·rw [if_pos h1, if_pos (hid.2 (.inl h1)), if_pos trivial]
  ·rw [if_neg h1]
   by_cases h2 : a = -1 ∧ b = 0 ∧ c = 0 ∧ d = -1
   ·rw [if_pos h2, if_pos (hid.2 (.inr h2))]
   ·rw [if_neg h2, if_neg (fun h => (hid.1 h).elim h1 h2)]
    by_cases h3 : -1 ≤ a + d ∧ a + d ≤ 1
    ·rw [if_pos h3, if_pos h3]
    ·rw [if_neg h3, if_neg h3]
     by_cases h4 : a + d = 2
     ·rw [if_pos h4, if_pos (.inl h4)]
     ·rw [if_neg h4]
      by_cases h5 : a + d = -2
      ·rw [if_pos h5, if_pos (.inr h5)]
      ·rw [if_neg h5, if_neg (by omega)]
 ·rw [if_neg h, if_neg h]
theorem toList_loop (s : ByteArray) : ∀ (n i : Nat) (r : List UInt8), i + n = s.size → ByteArray.toList.loop s i r = r.reverse ++ s.data.toList.drop i := by
 intro n
 induction n with
 | zero =>
  intro i r h
  unfold ByteArray.toList.loop
  rw [if_neg (by omega), List.drop_of_length_le (by rw [data_length]; omega), List.append_nil]
 | succ n ih =>
  intro i r h
  have hi : i < s.size := by omega
  have hl : i < s.data.toList.length := by rw [data_length]; exact hi
  unfold ByteArray.toList.loop
  rw [if_pos hi, ih (i + 1) _ (by omega), List.reverse_cons, List.append_assoc, List.drop_eq_getElem_cons hl]
  congr 1
  have : s.get! i = s.data.toList[i] := by
   simp only [ByteArray.get!, Array.getElem_toList]
   exact getElem!_pos s.data i (by simpa using hl)
  rw [this]
  rfl
theorem toList_data (s : ByteArray) : s.toList = s.data.toList := by
 unfold ByteArray.toList
 rw [toList_loop s s.size 0 [] (by omega)]
 simp
theorem kind_cases {a b c d : Int} (h : isM a b c d = true) :
  ((b = 0 ∧ c = 0) ∧ (kindB a b c d).toList = [105, 100, 101, 110, 116, 105, 116, 121]) ∨ (¬ (b = 0 ∧ c = 0) ∧ (-1 ≤ a + d ∧ a + d ≤ 1) ∧ (kindB a b c d).toList = [112, 101, 114, 105, 111, 100, 105, 99]) ∨
   (¬ (b = 0 ∧ c = 0) ∧ ¬ (-1 ≤ a + d ∧ a + d ≤ 1) ∧ ((a + d = 2 ∨ a + d = -2) ∧ (kindB a b c d).toList = [116, 119, 105, 115, 116] ∨ ¬ (a + d = 2 ∨ a + d = -2) ∧ (kindB a b c d).toList = [115, 116, 114, 101, 116, 99, 104])) := by
 unfold kindB
 rw [if_pos h]
 by_cases h1 : b = 0 ∧ c = 0
 ·left; rw [if_pos h1, toList_data]; exact ⟨h1, rfl⟩
 ·right
  rw [if_neg h1]
  by_cases h2 : -1 ≤ a + d ∧ a + d ≤ 1
  ·left; rw [if_pos h2, toList_data]; exact ⟨h1, h2, rfl⟩
  ·right
   rw [if_neg h2]
   refine ⟨h1, h2, ?_⟩
   by_cases h3 : a + d = 2 ∨ a + d = -2
   ·left; rw [if_pos h3, toList_data]; exact ⟨h3, rfl⟩
   ·right; rw [if_neg h3, toList_data]; exact ⟨h3, rfl⟩
theorem isM_false_kind {a b c d : Int} (h : ¬ isM a b c d = true) : (kindB a b c d).toList = [] := by
 unfold kindB
 rw [if_neg h, toList_data]
end Go.Proofs.YtnoiijdffdpabaaDoor.L

namespace Go.Proofs.YtnoiijdffdpabaaDoor.L
open Go.RowKit Go.Proofs.YtnoiijdffdpabaaDoor.P Go.Proofs.YtnoiijdffdpabaaDoor.Help Go.Proofs.YtnoiijdffdpabaaDoorW.PrintWords
set_option linter.unusedVariables false
set_option linter.unusedSimpArgs false

theorem spec_ord_step {k : Nat} {n a b c d p q r s p' q' r' s' : Int} (hn : 0 ≤ n ∧ n ≤ 6) (ha : -1000 ≤ a ∧ a ≤ 1000) (hb : -1000 ≤ b ∧ b ≤ 1000) (hc : -1000 ≤ c ∧ c ≤ 1000) (hd : -1000 ≤ d ∧ d ≤ 1000) (hp : -1000 ≤ p ∧ p ≤ 1000) (hq : -1000 ≤ q ∧ q ≤ 1000) (hr : -1000 ≤ r ∧ r ≤ 1000) (hs : -1000 ≤ s ∧ s ≤ 1000)
  (hne : ¬ (p = 1 ∧ q = 0 ∧ r = 0)) (e1 : p * a + q * c = p') (e2 : p * b + q * d = q') (e3 : r * a + s * c = r') (e4 : r * b + s * d = s') :
  spec_OrderOf.l0 (k + 1) n a b c d p q r s = spec_OrderOf.l0 k (n + 1) a b c d p' q' r' s' := by
 conv => lhs; unfold spec_OrderOf.l0
 rw [spec_prod hp hq hr hs ha hb hc hd, e1, e2, e3, e4, w_id (a := n + 1) (by omega) (by omega), if_pos hn.2]
 simp only [Option.bind_some]
 by_cases h1 : p = 1
 ·rw [if_pos h1]
  by_cases h2 : q = 0
  ·rw [if_pos h2, if_neg (fun h3 => hne ⟨h1, h2, h3⟩)]
  ·rw [if_neg h2]
 ·rw [if_neg h1]
theorem spec_ord_end {k : Nat} {n a b c d s : Int} (hn : n ≤ 6) : spec_OrderOf.l0 (k + 1) n a b c d 1 0 0 s = some n := by
 unfold spec_OrderOf.l0
 rw [if_pos hn, if_pos rfl, if_pos rfl, if_pos rfl]
theorem impl_ord_step {k : Nat} {n a b c d p q r s p' q' r' s' : Int} (hk : 5 < k) (hn : 0 ≤ n ∧ n ≤ 12) (hm : isM a b c d = true) (hp : isM p q r s = true) (hp' : isM p' q' r' s' = true)
  (hne : ¬ (p = 1 ∧ q = 0 ∧ r = 0 ∧ s = 1)) (e1 : p * a + q * c = p') (e2 : p * b + q * d = q') (e3 : r * a + s * c = r') (e4 : r * b + s * d = s') :
  impl_OrderOf.l0 (k + 1) n a b c d p q r s = impl_OrderOf.l0 k (n + 1) a b c d p' q' r' s' := by
 conv => lhs; unfold impl_OrderOf.l0
 unfold impl_one.f
 have ht : timesR p q r s a b c d = (p', q', r', s', true) := by
  unfold timesR
  rw [e1, e2, e3, e4, if_pos ⟨hp, hm, hp'⟩]
 rw [impl_times p q r s a b c d k hk, ht, w_id (a := n + 1) (by omega) (by omega), if_pos hn.2]
 simp only [Option.bind_some, Bool.and_eq_true, beq_iff_eq]
 rw [if_neg hne, if_pos trivial]
theorem impl_ord_end {k : Nat} {n a b c d : Int} (hn : n ≤ 12) : impl_OrderOf.l0 (k + 1) n a b c d 1 0 0 1 = some n := by
 unfold impl_OrderOf.l0 impl_one.f
 rw [if_pos hn]
 simp
theorem mkM {a b c d : Int} (ha : -1000 ≤ a ∧ a ≤ 1000) (hb : -1000 ≤ b ∧ b ≤ 1000) (hc : -1000 ≤ c ∧ c ≤ 1000) (hd : -1000 ≤ d ∧ d ≤ 1000) (h : a * d - b * c = 1) : isM a b c d = true := decide_eq_true ⟨ha, hb, hc, hd, h⟩
/-- How often a matrix has to be done to change nothing. -/
def ordR (a b c d : Int) : Int :=
 if isM a b c d = true then
  if b = 0 ∧ c = 0 then (if a = 1 then 1 else 2)
  else if a + d = 0 then 4 else if a + d = 1 then 6 else if a + d = -1 then 3 else 0
 else -1
theorem spec_loop (a b c d : Int) (k : Nat) (hk : 10 < k) (h : isM a b c d = true) (hk2 : (b = 0 ∧ c = 0) ∨ (-1 ≤ a + d ∧ a + d ≤ 1)) : spec_OrderOf.l0 k 1 a b c d a b c d = some (ordR a b c d) := by
 obtain ⟨k, rfl⟩ : ∃ m, k = m + 7 := ⟨k - 7, by omega⟩
 obtain ⟨ha, hb, hc, hd, hdet⟩ := isM_true h
 unfold ordR
 rw [if_pos h]
 by_cases h0 : b = 0 ∧ c = 0
 ·rw [if_pos h0]
  obtain ⟨rfl, rfl⟩ := h0
  have h1 : a * d = 1 := by simpa using hdet
  rcases unit_of h1 with rfl | rfl
  ·obtain rfl : d = 1 := by omega
   exact spec_ord_end (by decide)
  ·obtain rfl : d = -1 := by omega
   rw [spec_ord_step (p' := 1) (q' := 0) (r' := 0) (s' := 1) (by decide) (by decide) (by decide) (by decide) (by decide) (by decide) (by decide) (by decide) (by decide) (by decide) (by decide) (by decide) (by decide) (by decide)]
   exact spec_ord_end (by decide)
 ·rw [if_neg h0]
  have ht : a + d = 0 ∨ a + d = 1 ∨ a + d = -1 := by omega
  rcases ht with ht | ht | ht
  ·obtain rfl : d = -a := by omega
   have hbc : b * c = -(a * a) - 1 := by grind
   rw [if_pos ht]
   rw [spec_ord_step (p' := -1) (q' := 0) (r' := 0) (s' := -1) (by decide) ha hb hc hd ha hb hc hd (by omega) (by grind) (by grind) (by grind) (by grind),
    spec_ord_step (p' := -a) (q' := -b) (r' := -c) (s' := a) (by decide) ha hb hc hd (by decide) (by decide) (by decide) (by decide) (by decide) (by grind) (by grind) (by grind) (by grind),
    spec_ord_step (p' := 1) (q' := 0) (r' := 0) (s' := 1) (by decide) ha hb hc hd (by omega) (by omega) (by omega) (by omega) (by omega) (by grind) (by grind) (by grind) (by grind)]
   exact spec_ord_end (by decide)
  ·obtain rfl : d = 1 - a := by omega
   have hbc : b * c = a - a * a - 1 := by grind
   rw [if_neg (by omega), if_pos ht]
   rw [spec_ord_step (p' := a - 1) (q' := b) (r' := c) (s' := -a) (by decide) ha hb hc hd ha hb hc hd (by omega) (by grind) (by grind) (by grind) (by grind),
    spec_ord_step (p' := -1) (q' := 0) (r' := 0) (s' := -1) (by decide) ha hb hc hd (by omega) (by omega) (by omega) (by omega) (by omega) (by grind) (by grind) (by grind) (by grind),
    spec_ord_step (p' := -a) (q' := -b) (r' := -c) (s' := a - 1) (by decide) ha hb hc hd (by decide) (by decide) (by decide) (by decide) (by decide) (by grind) (by grind) (by grind) (by grind),
    spec_ord_step (p' := 1 - a) (q' := -b) (r' := -c) (s' := a) (by decide) ha hb hc hd (by omega) (by omega) (by omega) (by omega) (by omega) (by grind) (by grind) (by grind) (by grind),
    spec_ord_step (p' := 1) (q' := 0) (r' := 0) (s' := 1) (by decide) ha hb hc hd (by omega) (by omega) (by omega) (by omega) (by omega) (by grind) (by grind) (by grind) (by grind)]
   exact spec_ord_end (by decide)
  ·obtain rfl : d = -1 - a := by omega
   have hbc : b * c = -a - a * a - 1 := by grind
   rw [if_neg (by omega), if_neg (by omega), if_pos ht]
   rw [spec_ord_step (p' := -1 - a) (q' := -b) (r' := -c) (s' := a) (by decide) ha hb hc hd ha hb hc hd (by omega) (by grind) (by grind) (by grind) (by grind),
    spec_ord_step (p' := 1) (q' := 0) (r' := 0) (s' := 1) (by decide) ha hb hc hd (by omega) (by omega) (by omega) (by omega) (by omega) (by grind) (by grind) (by grind) (by grind)]
   exact spec_ord_end (by decide)
theorem impl_loop (a b c d : Int) (k : Nat) (hk : 20 < k) (h : isM a b c d = true) (hk2 : (b = 0 ∧ c = 0) ∨ (-1 ≤ a + d ∧ a + d ≤ 1)) : impl_OrderOf.l0 k 1 a b c d a b c d = some (ordR a b c d) := by
 obtain ⟨k, rfl⟩ : ∃ m, k = m + 7 := ⟨k - 7, by omega⟩
 obtain ⟨ha, hb, hc, hd, hdet⟩ := isM_true h
 unfold ordR
 rw [if_pos h]
 by_cases h0 : b = 0 ∧ c = 0
 ·rw [if_pos h0]
  obtain ⟨rfl, rfl⟩ := h0
  have h1 : a * d = 1 := by simpa using hdet
  rcases unit_of h1 with rfl | rfl
  ·obtain rfl : d = 1 := by omega
   exact impl_ord_end (by decide)
  ·obtain rfl : d = -1 := by omega
   rw [impl_ord_step (p' := 1) (q' := 0) (r' := 0) (s' := 1) (by omega) (by decide) (by decide) (by decide) (by decide) (by decide) (by decide) (by decide) (by decide) (by decide)]
   exact impl_ord_end (by decide)
 ·rw [if_neg h0]
  have ht : a + d = 0 ∨ a + d = 1 ∨ a + d = -1 := by omega
  rcases ht with ht | ht | ht
  ·obtain rfl : d = -a := by omega
   have hbc : b * c = -(a * a) - 1 := by grind
   rw [if_pos ht]
   rw [impl_ord_step (p' := -1) (q' := 0) (r' := 0) (s' := -1) (by omega) (by decide) h h (by decide) (by omega) (by grind) (by grind) (by grind) (by grind),
    impl_ord_step (p' := -a) (q' := -b) (r' := -c) (s' := a) (by omega) (by decide) h (by decide) (mkM (by omega) (by omega) (by omega) (by omega) (by grind)) (by decide) (by grind) (by grind) (by grind) (by grind),
    impl_ord_step (p' := 1) (q' := 0) (r' := 0) (s' := 1) (by omega) (by decide) h (mkM (by omega) (by omega) (by omega) (by omega) (by grind)) (by decide) (by omega) (by grind) (by grind) (by grind) (by grind)]
   exact impl_ord_end (by decide)
  ·obtain rfl : d = 1 - a := by omega
   have hbc : b * c = a - a * a - 1 := by grind
   rw [if_neg (by omega), if_pos ht]
   rw [impl_ord_step (p' := a - 1) (q' := b) (r' := c) (s' := -a) (by omega) (by decide) h h (mkM (by omega) (by omega) (by omega) (by omega) (by grind)) (by omega) (by grind) (by grind) (by grind) (by grind),
    impl_ord_step (p' := -1) (q' := 0) (r' := 0) (s' := -1) (by omega) (by decide) h (mkM (by omega) (by omega) (by omega) (by omega) (by grind)) (by decide) (by omega) (by grind) (by grind) (by grind) (by grind),
    impl_ord_step (p' := -a) (q' := -b) (r' := -c) (s' := a - 1) (by omega) (by decide) h (by decide) (mkM (by omega) (by omega) (by omega) (by omega) (by grind)) (by decide) (by grind) (by grind) (by grind) (by grind),
    impl_ord_step (p' := 1 - a) (q' := -b) (r' := -c) (s' := a) (by omega) (by decide) h (mkM (by omega) (by omega) (by omega) (by omega) (by grind)) (mkM (by omega) (by omega) (by omega) (by omega) (by grind)) (by omega) (by grind) (by grind) (by grind) (by grind),
    impl_ord_step (p' := 1) (q' := 0) (r' := 0) (s' := 1) (by omega) (by decide) h (mkM (by omega) (by omega) (by omega) (by omega) (by grind)) (by decide) (by omega) (by grind) (by grind) (by grind) (by grind)]
   exact impl_ord_end (by decide)
  ·obtain rfl : d = -1 - a := by omega
   have hbc : b * c = -a - a * a - 1 := by grind
   rw [if_neg (by omega), if_neg (by omega), if_pos ht]
   rw [impl_ord_step (p' := -1 - a) (q' := -b) (r' := -c) (s' := a) (by omega) (by decide) h h (mkM (by omega) (by omega) (by omega) (by omega) (by grind)) (by omega) (by grind) (by grind) (by grind) (by grind),
    impl_ord_step (p' := 1) (q' := 0) (r' := 0) (s' := 1) (by omega) (by decide) h (mkM (by omega) (by omega) (by omega) (by omega) (by grind)) (by decide) (by omega) (by grind) (by grind) (by grind) (by grind)]
   exact impl_ord_end (by decide)
theorem ordR_none {a b c d : Int} (h : isM a b c d = true) (h1 : ¬ (b = 0 ∧ c = 0)) (h2 : ¬ (-1 ≤ a + d ∧ a + d ≤ 1)) : ordR a b c d = 0 := by
 unfold ordR
 rw [if_pos h, if_neg h1, if_neg (by omega), if_neg (by omega), if_neg (by omega)]
theorem spec_ord (a b c d : Int) (k : Nat) (hk : 20 < k) : spec_OrderOf.f k a b c d = some (ordR a b c d) := by
 unfold spec_OrderOf.f
 rw [spec_isM _ _ _ _ _ (by omega), spec_kind _ _ _ _ _ (by omega), Option.bind_some, Option.bind_some, Option.bind_some]
 by_cases h : isM a b c d = true
 ·rw [if_pos h]
  obtain ⟨k, rfl⟩ : ∃ m, k = m + 1 := ⟨k - 1, by omega⟩
  simp only [spec_OrderOf.j0]
  rcases kind_cases h with ⟨h1, h2⟩ | ⟨h1, h2, h3⟩ | ⟨h1, h2, ⟨h3, h4⟩ | ⟨h3, h4⟩⟩
  ·rw [h2, if_neg (by decide), if_neg (by decide)]
   exact spec_loop a b c d k (by omega) h (.inl h1)
  ·rw [h3, if_neg (by decide), if_neg (by decide)]
   exact spec_loop a b c d k (by omega) h (.inr h2)
  ·rw [h4, if_pos rfl, if_pos trivial, ordR_none h h1 h2]
  ·rw [h4, if_neg (by decide), if_pos (by decide), ordR_none h h1 h2]
 ·rw [if_neg h]
  unfold ordR
  rw [if_neg h]
theorem impl_ord (a b c d : Int) (k : Nat) (hk : 30 < k) : impl_OrderOf.f k a b c d = some (ordR a b c d) := by
 unfold impl_OrderOf.f
 rw [impl_isM _ _ _ _ _ (by omega), impl_kind _ _ _ _ _ (by omega), Option.bind_some, Option.bind_some]
 by_cases h : isM a b c d = true
 ·rw [if_pos h]
  obtain ⟨k, rfl⟩ : ∃ m, k = m + 1 := ⟨k - 1, by omega⟩
  simp only [impl_OrderOf.j0]
  rcases kind_cases h with ⟨h1, h2⟩ | ⟨h1, h2, h3⟩ | ⟨h1, h2, ⟨h3, h4⟩ | ⟨h3, h4⟩⟩
  ·rw [h2, if_pos rfl, if_neg (by decide)]
   exact impl_loop a b c d k (by omega) h (.inl h1)
  ·rw [h3, if_neg (by decide), if_neg (by decide)]
   exact impl_loop a b c d k (by omega) h (.inr h2)
  ·rw [h4, if_neg (by decide), if_pos (by decide), ordR_none h h1 h2]
  ·rw [h4, if_neg (by decide), if_pos (by decide), ordR_none h h1 h2]
 ·rw [if_neg h]
  unfold ordR
  rw [if_neg h]
end Go.Proofs.YtnoiijdffdpabaaDoor.L

namespace Go.Proofs.YtnoiijdffdpabaaDoor.L
open Go.RowKit Go.Proofs.YtnoiijdffdpabaaDoor.P Go.Proofs.YtnoiijdffdpabaaDoor.Help Go.Proofs.YtnoiijdffdpabaaDoorW.PrintWords
set_option linter.unusedVariables false
set_option linter.unusedSimpArgs false

/-- The slope that a twist keeps. -/
def fixR (a b c d : Int) : List S35 :=
 if isM a b c d = true ∧ ¬ (b = 0 ∧ c = 0) ∧ (a + d = 2 ∨ a + d = -2) then
  if a - (a + d).tdiv 2 = 0 ∧ c = 0 then
   (if (slopeR b (d - (a + d).tdiv 2)).2.2 = true then [⟨(slopeR b (d - (a + d).tdiv 2)).1, (slopeR b (d - (a + d).tdiv 2)).2.1⟩] else [])
  else [⟨(slopeR (a - (a + d).tdiv 2) c).1, (slopeR (a - (a + d).tdiv 2) c).2.1⟩]
 else []
theorem fixR_len (a b c d : Int) : (fixR a b c d).length ≤ 1 := by
 unfold fixR
 repeat' split
 all_goals simp
theorem half {a d : Int} (h : a + d = 2 ∨ a + d = -2) : ∃ t : Int, (a + d).tdiv 2 = t ∧ (t = 1 ∧ a + d = 2 ∨ t = -1 ∧ a + d = -2) := by
 rcases h with h | h
 ·exact ⟨1, by rw [h]; rfl, .inl ⟨rfl, h⟩⟩
 ·exact ⟨-1, by rw [h]; rfl, .inr ⟨rfl, h⟩⟩
theorem fixR_no {a b c d : Int} (h : ¬ (isM a b c d = true ∧ ¬ (b = 0 ∧ c = 0) ∧ (a + d = 2 ∨ a + d = -2))) : fixR a b c d = [] := by
 unfold fixR
 rw [if_neg h]
theorem fixR_yes {a b c d t : Int} (h : isM a b c d = true ∧ ¬ (b = 0 ∧ c = 0) ∧ (a + d = 2 ∨ a + d = -2)) (e : (a + d).tdiv 2 = t) : fixR a b c d =
  if a - t = 0 ∧ c = 0 then (if (slopeR b (d - t)).2.2 = true then [⟨(slopeR b (d - t)).1, (slopeR b (d - t)).2.1⟩] else []) else [⟨(slopeR (a - t) c).1, (slopeR (a - t) c).2.1⟩] := by
 unfold fixR
 rw [if_pos h, e]
theorem spec_fixed (a b c d : Int) (k : Nat) (hk : 1002 < k) : spec_FixedSlopes.f k a b c d = some (fixR a b c d) := by
 unfold spec_FixedSlopes.f
 simp only [Option.bind_some]
 rw [spec_kind _ _ _ _ _ (by omega), Option.bind_some]
 by_cases h : isM a b c d = true
 ·obtain ⟨ha, hb, hc, hd, _⟩ := isM_true h
  rcases kind_cases h with ⟨h1, h2⟩ | ⟨h1, h2, h3⟩ | ⟨h1, h2, ⟨h3, h4⟩ | ⟨h3, h4⟩⟩
  ·rw [h2, if_neg (by decide), fixR_no (fun h => h.2.1 h1)]
  ·rw [h3, if_neg (by decide), fixR_no (fun h => by omega)]
  ·obtain ⟨t, e, ht⟩ := half h3
   rw [h4, if_pos rfl, fixR_yes ⟨h, h1, h3⟩ e]
   rw [w_id (a := a + d) (by omega) (by omega), e, w_id (a := t) (by omega) (by omega), w_id (a := a - t) (by omega) (by omega), w_id (a := d - t) (by omega) (by omega), spec_slope _ _ _ (by omega), spec_slope _ _ _ (by omega), Option.bind_some, Option.bind_some]
   by_cases h0 : a - t = 0 ∧ c = 0
   ·rw [if_pos h0, h0.1, h0.2, slopeR_zero]
    simp only [Bool.false_eq_true, if_false, List.length_nil, List.nil_append]
    split
    ·rw [if_pos (by decide)]
    ·rfl
   ·rw [if_neg h0, if_pos (slopeR_ok (by omega) (by omega) h0)]
    simp
  ·rw [h4, if_neg (by decide), fixR_no (fun h => h3 h.2.2)]
 ·rw [isM_false_kind h, if_neg (by decide), fixR_no (fun h' => h h'.1)]
theorem impl_fixed (a b c d : Int) (k : Nat) (hk : 1002 < k) : impl_FixedSlopes.f k a b c d = some (fixR a b c d) := by
 unfold impl_FixedSlopes.f
 rw [impl_kind _ _ _ _ _ (by omega), Option.bind_some]
 obtain ⟨k, rfl⟩ : ∃ m, k = m + 1 := ⟨k - 1, by omega⟩
 by_cases h : isM a b c d = true
 ·obtain ⟨ha, hb, hc, hd, _⟩ := isM_true h
  rcases kind_cases h with ⟨h1, h2⟩ | ⟨h1, h2, h3⟩ | ⟨h1, h2, ⟨h3, h4⟩ | ⟨h3, h4⟩⟩
  ·rw [h2, if_neg (by decide), fixR_no (fun h => h.2.1 h1)]
  ·rw [h3, if_neg (by decide), fixR_no (fun h => by omega)]
  ·obtain ⟨t, e, ht⟩ := half h3
   rw [h4, if_pos rfl, fixR_yes ⟨h, h1, h3⟩ e]
   simp only [impl_FixedSlopes.j0]
   rw [w_id (a := a + d) (by omega) (by omega), e, w_id (a := t) (by omega) (by omega), w_id (a := a - t) (by omega) (by omega), w_id (a := d - t) (by omega) (by omega), impl_slope _ _ _ (by omega), impl_slope _ _ _ (by omega), Option.bind_some, Option.bind_some]
   by_cases h0 : a - t = 0 ∧ c = 0
   ·rw [if_pos h0, if_pos h0.1, if_pos (by simpa using h0.2)]
    split <;> rfl
   ·have hok := slopeR_ok (p := a - t) (q := c) (by omega) (by omega) h0
    rw [if_neg h0]
    by_cases h5 : a - t = 0
    ·rw [if_pos h5, if_neg (by simpa using fun h6 => h0 ⟨h5, h6⟩), if_pos hok]
    ·rw [if_neg h5, if_neg (by decide), if_pos hok]
  ·rw [h4, if_neg (by decide), fixR_no (fun h => h3 h.2.2)]
 ·rw [isM_false_kind h, if_neg (by decide), fixR_no (fun h' => h h'.1)]
end Go.Proofs.YtnoiijdffdpabaaDoor.L

namespace Go.Proofs.YtnoiijdffdpabaaDoor.L
open Go.RowKit Go.Proofs.YtnoiijdffdpabaaDoor.P Go.Proofs.YtnoiijdffdpabaaDoor.Help Go.Proofs.YtnoiijdffdpabaaDoorW.PrintWords
set_option linter.unusedVariables false
set_option linter.unusedSimpArgs false

theorem spec_inv (a b c d : Int) (k : Nat) (hk : 4 < k) : spec_InverseMatrix.f k a b c d = some (if isM a b c d then (d, wrap64 (-b), wrap64 (-c), a) else (0, 0, 0, 0)) := by
 unfold spec_InverseMatrix.f
 rw [spec_isM _ _ _ _ _ hk, Option.bind_some]
 split <;> rfl
theorem impl_inv (a b c d : Int) (k : Nat) (hk : 4 < k) : impl_InverseMatrix.f k a b c d = some (if isM a b c d then (d, wrap64 (-b), wrap64 (-c), a) else (0, 0, 0, 0)) := by
 unfold impl_InverseMatrix.f
 rw [impl_isM _ _ _ _ _ hk, Option.bind_some]
 split <;> rfl
end Go.Proofs.YtnoiijdffdpabaaDoor.L

namespace Go.Proofs.YtnoiijdffdpabaaDoor.L
open Go.RowKit Go.Proofs.YtnoiijdffdpabaaDoor.P Go.Proofs.YtnoiijdffdpabaaDoor.Help Go.Proofs.YtnoiijdffdpabaaDoorW.PrintWords
set_option linter.unusedVariables false
set_option linter.unusedSimpArgs false

theorem spec_tr (a b c d : Int) (k : Nat) (hk : 4 < k) : spec_TraceOf.f k a b c d = some (if isM a b c d then wrap64 (a + d) else 0) := by
 unfold spec_TraceOf.f
 rw [spec_isM _ _ _ _ _ hk, Option.bind_some]
 split <;> rfl
theorem impl_tr (a b c d : Int) (k : Nat) (hk : 4 < k) : impl_TraceOf.f k a b c d = some (if isM a b c d then wrap64 (a + d) else 0) := by
 unfold impl_TraceOf.f
 rw [impl_isM _ _ _ _ _ hk, Option.bind_some]
 split <;> rfl
end Go.Proofs.YtnoiijdffdpabaaDoor.L


namespace Go.Proofs.YtnoiijdffdpabaaDoor.L
open Go Go.RowKit Go.Proofs.YtnoiijdffdpabaaDoor.P Go.Proofs.YtnoiijdffdpabaaDoor.Help Go.Proofs.YtnoiijdffdpabaaDoorW.PrintWords
set_option linter.unusedVariables false
set_option linter.unusedSimpArgs false
/-- The inverse. -/
def invR (a b c d : Int) : Int × Int × Int × Int := if isM a b c d = true then (d, -b, -c, a) else (0, 0, 0, 0)
theorem inv_eq (a b c d : Int) : (if isM a b c d then (d, wrap64 (-b), wrap64 (-c), a) else (0, 0, 0, 0)) = invR a b c d := by
 unfold invR
 split
 ·rename_i h
  obtain ⟨h1, h2, h3, h4, _⟩ := isM_true h
  rw [w_id (by omega) (by omega), w_id (by omega) (by omega)]
 ·rfl
theorem inv_isM {a b c d : Int} (h : isM a b c d = true) : isM d (-b) (-c) a = true := by
 obtain ⟨h1, h2, h3, h4, h5⟩ := isM_true h
 refine mkM h4 (by omega) (by omega) h1 ?_
 rw [Int.neg_mul_neg, Int.mul_comm d a]
 exact h5
/-- The product with the inverse changes nothing. -/
theorem times_inv {a b c d : Int} (h : isM a b c d = true) : timesR a b c d d (-b) (-c) a = (1, 0, 0, 1, true) := by
 obtain ⟨h1, h2, h3, h4, h5⟩ := isM_true h
 have e1 : a * d + b * -c = 1 := by rw [Int.mul_neg]; omega
 have e2 : a * -b + b * a = 0 := by grind
 have e3 : c * d + d * -c = 0 := by grind
 have e4 : c * -b + d * a = 1 := by grind
 unfold timesR
 rw [e1, e2, e3, e4, if_pos ⟨h, inv_isM h, by decide⟩]
/-- Two slopes on one line are one. -/
theorem par_same {p q r s e : Int} (he : e = 1 ∨ e = -1) (h1 : isS p q = true) (h2 : isS r s = true) (hp : p = e * r) (hq : q = e * s) : p = r ∧ q = s := by
 refine sameS h1 h2 ?_
 rw [hp, hq, Int.mul_assoc, Int.mul_assoc, Int.mul_comm r s]
/-- A product moves as its factors do. -/
theorem move_times {a b c d e f g h p q : Int} (ht : (timesR a b c d e f g h).2.2.2.2 = true)
  (h1 : (moveR e f g h p q).2.2 = true) (h2 : (moveR a b c d (moveR e f g h p q).1 (moveR e f g h p q).2.1).2.2 = true)
  (h3 : (moveR (timesR a b c d e f g h).1 (timesR a b c d e f g h).2.1 (timesR a b c d e f g h).2.2.1 (timesR a b c d e f g h).2.2.2.1 p q).2.2 = true) :
  (moveR a b c d (moveR e f g h p q).1 (moveR e f g h p q).2.1).1 = (moveR (timesR a b c d e f g h).1 (timesR a b c d e f g h).2.1 (timesR a b c d e f g h).2.2.1 (timesR a b c d e f g h).2.2.2.1 p q).1 ∧
  (moveR a b c d (moveR e f g h p q).1 (moveR e f g h p q).2.1).2.1 = (moveR (timesR a b c d e f g h).1 (timesR a b c d e f g h).2.1 (timesR a b c d e f g h).2.2.1 (timesR a b c d e f g h).2.2.2.1 p q).2.1 := by
 have hm : timesR a b c d e f g h = (a * e + b * g, a * f + b * h, c * e + d * g, c * f + d * h, true) := by
  unfold timesR at ht ⊢
  split
  ·rfl
  ·rename_i hn
   rw [if_neg hn] at ht
   cases ht
 rw [hm] at h3 ⊢
 dsimp only at h3 ⊢
 obtain ⟨_, i1, i2, x, hx, x1, x2⟩ := move_facts h1
 obtain ⟨_, i3, i4, y, hy, y1, y2⟩ := move_facts h2
 obtain ⟨_, i5, i6, z, hz, z1, z2⟩ := move_facts h3
 refine par_same (e := x * y * z) (by rcases hx with rfl | rfl <;> rcases hy with rfl | rfl <;> rcases hz with rfl | rfl <;> decide) i4 i6 ?_ ?_
 ·rw [z1, y1, x1, x2]
  have : z * z = 1 := by rcases hz with rfl | rfl <;> decide
  have e1 : x * y * z * (z * ((a * e + b * g) * p + (a * f + b * h) * q)) = (z * z) * (x * y * ((a * e + b * g) * p + (a * f + b * h) * q)) := by grind
  rw [e1, this, Int.one_mul]
  grind
 ·rw [z2, y2, x1, x2]
  have : z * z = 1 := by rcases hz with rfl | rfl <;> decide
  have e1 : x * y * z * (z * ((c * e + d * g) * p + (c * f + d * h) * q)) = (z * z) * (x * y * ((c * e + d * g) * p + (c * f + d * h) * q)) := by grind
  rw [e1, this, Int.one_mul]
  grind
/-- The inverse moves back. -/
theorem move_back {a b c d p q : Int} (h : (moveR a b c d p q).2.2 = true) :
  moveR (invR a b c d).1 (invR a b c d).2.1 (invR a b c d).2.2.1 (invR a b c d).2.2.2 (moveR a b c d p q).1 (moveR a b c d p q).2.1 = (p, q, true) := by
 obtain ⟨hd, i1, i2, x, hx, x1, x2⟩ := move_facts h
 have hm : isM a b c d = true := by
  unfold moveR at h
  split at h
  ·rename_i h'; exact h'.1
  ·cases h
 have xx : x * x = 1 := by rcases hx with rfl | rfl <;> decide
 have hi : invR a b c d = (d, -b, -c, a) := if_pos hm
 rw [hi]
 dsimp only
 generalize hP : (moveR a b c d p q).1 = P at *
 generalize hQ : (moveR a b c d p q).2.1 = Q at *
 unfold moveR
 rw [if_pos ⟨inv_isM hm, i2⟩]
 have e1 : d * P + -b * Q = x * p := by
  rw [x1, x2]
  have : d * (x * (a * p + b * q)) + -b * (x * (c * p + d * q)) = (a * d - b * c) * (x * p) := by grind
  rw [this, hd, Int.one_mul]
 have e2 : -c * P + a * Q = x * q := by
  rw [x1, x2]
  have : -c * (x * (a * p + b * q)) + a * (x * (c * p + d * q)) = (a * d - b * c) * (x * q) := by grind
  rw [this, hd, Int.one_mul]
 rw [e1, e2]
 obtain ⟨b1, b2, b3, b4⟩ := isS_true i1
 have hg : Int.gcd (x * p) (x * q) = 1 := by rcases hx with rfl | rfl <;> simpa using b3
 obtain ⟨y, hy, ey, iy⟩ := slope_prim (p := x * p) (q := x * q) (by rcases hx with rfl | rfl <;> omega) (by rcases hx with rfl | rfl <;> omega) hg
 rw [ey]
 obtain ⟨u, v⟩ := par_same (p := y * (x * p)) (q := y * (x * q)) (e := y * x) (by rcases hx with rfl | rfl <;> rcases hy with rfl | rfl <;> decide) iy i1 (by rw [Int.mul_assoc]) (by rw [Int.mul_assoc])
 rw [u, v]
theorem gcd_subl {p q : Int} (h : Int.gcd p q = 1) : Int.gcd (p - q) q = 1 := by
 have h1 : (Int.gcd (p - q) q : Int) ∣ (p - q) := Int.gcd_dvd_left ..
 have h2 : (Int.gcd (p - q) q : Int) ∣ q := Int.gcd_dvd_right ..
 have h3 := Int.dvd_add h1 h2
 rw [Int.sub_add_cancel] at h3
 have h4 := Int.dvd_coe_gcd h3 h2
 rw [h] at h4
 have h5 := Int.natAbs_dvd_natAbs.2 h4
 simpa using h5
/-- The turns to a slope move 1 / 1 there. -/
theorem turns_move (s : ByteArray) : ∀ (N n i : Nat) (a b c d p q : Int), s.data.toList.drop i = tw N p q → n = (tw N p q).length → i + n = s.size → 1 ≤ p → 1 ≤ q → p + q ≤ N → Int.gcd p q = 1 → isM a b c d = true →
  (tofI s n i a b c d).2.2.2.2 = true → isM (tofI s n i a b c d).1 (tofI s n i a b c d).2.1 (tofI s n i a b c d).2.2.1 (tofI s n i a b c d).2.2.2.1 = true ∧ (tofI s n i a b c d).1 + (tofI s n i a b c d).2.1 = a * p + b * q ∧ (tofI s n i a b c d).2.2.1 + (tofI s n i a b c d).2.2.2.1 = c * p + d * q
 | 0, n, i, a, b, c, d, p, q, hs, hn, hi, hp, hq, hN, hg, hm, ht => by omega
 | N + 1, n, i, a, b, c, d, p, q, hs, hn, hi, hp, hq, hN, hg, hm, ht => by
  rw [tw] at hs hn
  by_cases h1 : p = q
  ·rw [if_pos h1] at hn
   subst h1
   have hp1 : p = 1 := by
    have : Int.gcd p p = p.natAbs := Int.gcd_self
    omega
   subst hp1
   subst hn
   simp only [List.length_nil, tofI]
   exact ⟨hm, by omega, by omega⟩
  ·rw [if_neg h1] at hs hn
   have step : ∀ (x : UInt8) (e f g h p' q' : Int), s.data.toList.drop i = x :: tw N p' q' → n = (tw N p' q').length + 1 → turnM (x.toNat : Int) = (e, f, g, h) → 1 ≤ p' → 1 ≤ q' → p' + q' ≤ N → Int.gcd p' q' = 1 →
     e * p' + f * q' = p → g * p' + h * q' = q → isM (tofI s n i a b c d).1 (tofI s n i a b c d).2.1 (tofI s n i a b c d).2.2.1 (tofI s n i a b c d).2.2.2.1 = true ∧ (tofI s n i a b c d).1 + (tofI s n i a b c d).2.1 = a * p + b * q ∧ (tofI s n i a b c d).2.2.1 + (tofI s n i a b c d).2.2.2.1 = c * p + d * q := by
    intro x e f g h p' q' hs hn hx hp' hq' hN' hg' e1 e2
    subst hn
    have hlt : i < s.data.toList.length := by
     rcases Nat.lt_or_ge i s.data.toList.length with h | h
     ·exact h
     ·rw [List.drop_eq_nil_of_le h] at hs
      cases hs
    rw [List.drop_eq_getElem_cons hlt] at hs
    obtain ⟨hx1, hs2⟩ := List.cons.inj hs
    have hb : bt s (i : Int) = (x.toNat : Int) := by
     rw [← hx1]
     unfold bt
     have h3 : i < s.data.size := by simpa using hlt
     have h4 : i < s.size := h3
     simp [ByteArray.get!, h3]
     rw [dif_pos h4]
     rfl
    rw [tofI, hb, hx] at ht ⊢
    dsimp only at ht ⊢
    by_cases ho : (timesR a b c d e f g h).2.2.2.2 = true
    ·rw [if_pos ho] at ht ⊢
     have hm2 : timesR a b c d e f g h = (a * e + b * g, a * f + b * h, c * e + d * g, c * f + d * h, true) ∧ isM (a * e + b * g) (a * f + b * h) (c * e + d * g) (c * f + d * h) = true := by
      unfold timesR at ho ⊢
      split
      ·rename_i hh; exact ⟨rfl, hh.2.2⟩
      ·rename_i hn
       rw [if_neg hn] at ho
       cases ho
     rw [hm2.1] at ht ⊢
     dsimp only at ht ⊢
     obtain ⟨r1, r2, r3⟩ := turns_move s N _ (i + 1) _ _ _ _ p' q' hs2 rfl (by omega) hp' hq' hN' hg' hm2.2 ht
     refine ⟨r1, ?_, ?_⟩
     ·rw [r2, ← e1, ← e2]; grind
     ·rw [r3, ← e1, ← e2]; grind
    ·rw [if_neg ho] at ht
     cases ht
   by_cases h2 : p > q
   ·rw [if_pos h2] at hs hn
    refine step 82 1 1 0 1 (p - q) q hs (by simpa using hn) rfl (by omega) hq (by omega) ?_ (by omega) (by omega)
    exact gcd_subl hg
   ·rw [if_neg h2] at hs hn
    refine step 76 1 0 1 1 p (q - p) hs (by simpa using hn) rfl hp (by omega) (by omega) ?_ (by omega) (by omega)
    rw [Int.gcd_comm]
    exact gcd_subl (by rw [Int.gcd_comm]; exact hg)
end Go.Proofs.YtnoiijdffdpabaaDoor.L

namespace Go.Proofs.YtnoiijdffdpabaaDoor.L
open Go Go.RowKit Go.Proofs.YtnoiijdffdpabaaDoor.P Go.Proofs.YtnoiijdffdpabaaDoor.Help Go.Proofs.YtnoiijdffdpabaaDoorW.PrintWords
set_option linter.unusedVariables false
set_option linter.unusedSimpArgs false
theorem wrap_s {a : Int} (h0 : -9223372036854775808 ≤ a) (h1 : a ≤ 9223372036854775807) : wrap64 a = a := by unfold wrap64; omega
/-- The digits of a number, none for 0. -/
def dgs (u : Nat) : List UInt8 := if u = 0 then [] else Lib.decDigits u
theorem dgs_step (u : Nat) (h : 0 < u) : dgs u = dgs (u / 10) ++ [UInt8.ofNat (48 + u % 10)] := by
 have e : dgs u = Lib.decDigits u := if_neg (by omega)
 rw [e, Lib.decDigits]
 by_cases c : u < 10
 ·rw [dif_pos c]
  have : u / 10 = 0 := by omega
  rw [this, Nat.mod_eq_of_lt c]
  rfl
 ·rw [dif_neg c]
  have : dgs (u / 10) = Lib.decDigits (u / 10) := if_neg (by omega)
  rw [this]
theorem dgs_len (u : Nat) (h : u < 18446744073709551616) : (dgs u).length ≤ 20 := by
 unfold dgs
 split
 ·simp
 ·rw [Lib.decDigits_length]
  exact Lib.nDigits_le20 u h
theorem one_digit (d : Int) (n : Nat) (hd : d = (n : Int)) (hn : n < 10) : strOfNums [(wrap64 (48 + d)) % 256] = ⟨#[UInt8.ofNat (48 + n)]⟩ := by
 subst hd
 rw [wrap_s (by omega) (by omega)]
 unfold strOfNums
 have : ((48 + (n : Int)) % 256).toNat = 48 + n := by omega
 simp [this]
theorem fmt_l0 (b : Bool) : ∀ (d k : Nat) (x : Int) (o : ByteArray), (dgs x.natAbs).length ≤ d → d < k → x.natAbs < 18446744073709551616 → o.size + d ≤ 1000 → -9223372036854775808 ≤ x → x ≤ 9223372036854775807 →
  spec_FormatInt.l0 k x b o = some ((if b = true then (⟨#[45]⟩ : ByteArray) else ⟨#[]⟩) ++ (⟨(dgs x.natAbs).toArray⟩ ++ o))
 | d, 0, x, o, hl, hk, hx, ho, h0, h1 => by omega
 | d, k + 1, x, o, hl, hk, hx, ho, h0, h1 => by
  simp only [spec_FormatInt.l0]
  by_cases c : x = 0
  ·subst c
   rw [if_pos rfl]
   have e : (⟨(dgs (Int.natAbs 0)).toArray⟩ : ByteArray) = ⟨#[]⟩ := rfl
   rw [e, show (⟨#[]⟩ : ByteArray) ++ o = o from ByteArray.empty_append]
   cases b with
   | true => rw [if_pos rfl, if_pos (by omega), if_pos rfl]
   | false => rw [if_neg (by decide), if_neg (by decide), show (⟨#[]⟩ : ByteArray) ++ o = o from ByteArray.empty_append]
  ·rw [if_neg c]
   have hp : 0 < x.natAbs := by omega
   have hs := dgs_step x.natAbs hp
   have e1 : (Int.tdiv x 10).natAbs = x.natAbs / 10 := by rw [Int.natAbs_tdiv]; rfl
   have e2 : (Int.tmod x 10).natAbs = x.natAbs % 10 := by rw [Int.natAbs_tmod]; rfl
   have e3 : -9223372036854775808 ≤ Int.tdiv x 10 ∧ Int.tdiv x 10 ≤ 9223372036854775807 := by omega
   obtain ⟨d, rfl⟩ : ∃ m, d = m + 1 := ⟨d - 1, by
    have : 0 < (dgs x.natAbs).length := by rw [hs]; simp
    omega⟩
   have hsz : ∀ n : Nat, (⟨#[UInt8.ofNat (48 + n)]⟩ : ByteArray).size = 1 := fun _ => rfl
   have key : ∀ n : Nat, n = x.natAbs % 10 → spec_FormatInt.l0 k (wrap64 (Int.tdiv x 10)) b ((⟨#[UInt8.ofNat (48 + n)]⟩ : ByteArray) ++ o) = some ((if b = true then (⟨#[45]⟩ : ByteArray) else ⟨#[]⟩) ++ (⟨(dgs x.natAbs).toArray⟩ ++ o)) := by
    intro n hn
    rw [wrap_s e3.1 e3.2]
    have hl2 : (dgs (Int.tdiv x 10).natAbs).length ≤ d := by
     rw [e1]
     rw [hs, List.length_append, List.length_singleton] at hl
     omega
    rw [fmt_l0 b d k (Int.tdiv x 10) _ hl2 (by omega) (by rw [e1]; omega) (by rw [ByteArray.size_append, hsz]; omega) e3.1 e3.2]
    congr 2
    rw [e1, hs, hn, ← ByteArray.append_assoc]
    congr 1
    all_goals (apply ByteArray.ext; simp [ByteArray.data_append])
   by_cases c2 : Int.tmod x 10 < 0
   ·rw [if_pos c2, Option.bind_some, wrap_s (a := -(Int.tmod x 10)) (by omega) (by omega), one_digit (-(Int.tmod x 10)) (x.natAbs % 10) (by omega) (by omega), hsz, if_pos (by omega)]
    exact key _ rfl
   ·rw [if_neg c2, Option.bind_some, one_digit (Int.tmod x 10) (x.natAbs % 10) (by omega) (by omega), hsz, if_pos (by omega)]
    exact key _ rfl
theorem spec_fmt (x : Int) (h0 : -9223372036854775808 ≤ x) (h1 : x ≤ 9223372036854775807) (k : Nat) (hk : 21 < k) : spec_FormatInt.f k x = some ⟨(Lib.itoa x).toArray⟩ := by
 unfold spec_FormatInt.f
 by_cases c : x = 0
 ·subst c
  rw [if_pos rfl]
  have : Lib.itoa 0 = [48] := by
   unfold Lib.itoa
   rw [if_neg (by decide), Lib.decDigits_one (by decide)]
   rfl
  rw [this]
 ·rw [if_neg c]
  have hd : dgs x.natAbs = Lib.decDigits x.natAbs := if_neg (by omega)
  rw [fmt_l0 _ 20 k x _ (dgs_len _ (by omega)) (by omega) (by omega) (by decide) h0 h1, hd, show ∀ o : ByteArray, o ++ (⟨#[]⟩ : ByteArray) = o from fun o => ByteArray.append_empty]
  congr 1
  unfold Lib.itoa
  by_cases c2 : x < 0
  ·rw [if_pos (decide_eq_true c2), if_pos c2]
   apply ByteArray.ext
   simp [ByteArray.data_append]
  ·rw [if_neg (by simpa using c2), if_neg c2, show (⟨#[]⟩ : ByteArray) ++ (⟨(Lib.decDigits x.natAbs).toArray⟩ : ByteArray) = _ from ByteArray.empty_append, show x.natAbs = x.toNat by omega]
theorem impl_fmt (x : Int) (h0 : -9223372036854775808 ≤ x) (h1 : x ≤ 9223372036854775807) : impl_FormatInt.f x = some ⟨(Lib.itoa x).toArray⟩ := by
 unfold impl_FormatInt.f
 rw [if_pos h0, if_pos h1]
theorem itoa_size (x : Int) (h0 : -9223372036854775808 ≤ x) (h1 : x ≤ 9223372036854775807) : (⟨(Lib.itoa x).toArray⟩ : ByteArray).size ≤ 21 := by
 have := Lib.itoa_length_le x h0 h1
 simpa [ByteArray.size] using this
end Go.Proofs.YtnoiijdffdpabaaDoor.L

namespace Go.Proofs.YtnoiijdffdpabaaDoor.L
open Go Go.RowKit Go.Proofs.YtnoiijdffdpabaaDoor.P Go.Proofs.YtnoiijdffdpabaaDoor.Help Go.Proofs.YtnoiijdffdpabaaDoorW.PrintWords
set_option linter.unusedVariables false
set_option linter.unusedSimpArgs false
def itS (x : Int) : ByteArray := ⟨(Lib.itoa x).toArray⟩
def mtext (a b c d : Int) : ByteArray := if isM a b c d = true then ((((((itS a ++ (⟨#[44]⟩ : ByteArray)) ++ itS b) ++ (⟨#[44]⟩ : ByteArray)) ++ itS c) ++ (⟨#[44]⟩ : ByteArray)) ++ itS d) else ⟨#[]⟩
theorem spec_mtext (a b c d : Int) (k : Nat) (hk : 21 < k) : spec_MatrixText.f k a b c d = some (mtext a b c d) := by
 unfold spec_MatrixText.f mtext
 rw [spec_isM _ _ _ _ k (by omega), Option.bind_some]
 by_cases h : isM a b c d = true
 ·obtain ⟨h1, h2, h3, h4, _⟩ := isM_true h
  have z : (⟨#[44]⟩ : ByteArray).size = 1 := rfl
  have s1 := itoa_size a (by omega) (by omega)
  have s2 := itoa_size b (by omega) (by omega)
  have s3 := itoa_size c (by omega) (by omega)
  have s4 := itoa_size d (by omega) (by omega)
  rw [if_pos h, if_pos h, spec_fmt a (by omega) (by omega) k hk, Option.bind_some, spec_fmt b (by omega) (by omega) k hk, Option.bind_some, spec_fmt c (by omega) (by omega) k hk, Option.bind_some, spec_fmt d (by omega) (by omega) k hk, Option.bind_some]
  simp only [ByteArray.size_append, z]
  rw [if_pos (by omega), if_pos (by omega), if_pos (by omega), if_pos (by omega), if_pos (by omega), if_pos (by omega)]
  rfl
 ·rw [if_neg h, if_neg h]
theorem impl_mtext (a b c d : Int) (k : Nat) (hk : 21 < k) : impl_MatrixText.f k a b c d = some (mtext a b c d) := by
 unfold impl_MatrixText.f mtext
 rw [impl_isM _ _ _ _ k (by omega), Option.bind_some]
 by_cases h : isM a b c d = true
 ·obtain ⟨h1, h2, h3, h4, _⟩ := isM_true h
  have s1 := Lib.itoa_length_le a (by omega) (by omega)
  have s2 := Lib.itoa_length_le b (by omega) (by omega)
  have s3 := Lib.itoa_length_le c (by omega) (by omega)
  have s4 := Lib.itoa_length_le d (by omega) (by omega)
  rw [if_pos h, if_pos h, impl_fmt a (by omega) (by omega), Option.bind_some, impl_fmt b (by omega) (by omega), Option.bind_some, impl_fmt c (by omega) (by omega), Option.bind_some, impl_fmt d (by omega) (by omega), Option.bind_some]
  unfold impl_Join.f
  have e : Lib.join (([⟨(Lib.itoa a).toArray⟩, ⟨(Lib.itoa b).toArray⟩, ⟨(Lib.itoa c).toArray⟩, ⟨(Lib.itoa d).toArray⟩] : List ByteArray).map (·.data.toList)) (⟨#[44]⟩ : ByteArray).data.toList = Lib.itoa a ++ ([44] ++ Lib.itoa b ++ ([44] ++ Lib.itoa c ++ ([44] ++ Lib.itoa d))) := by
   simp only [List.map_cons, List.map_nil]
   rw [Lib.join_cons]
   simp [Lib.joinTail]
  rw [if_pos (by simp), e, if_pos (by simp; omega), Option.bind_some]
  congr 1
  unfold itS
  apply ByteArray.ext
  simp [ByteArray.data_append]
 ·rw [if_neg h, if_neg h]
end Go.Proofs.YtnoiijdffdpabaaDoor.L

namespace Go.Proofs.YtnoiijdffdpabaaDoor.L
open Go Go.RowKit Go.Proofs.YtnoiijdffdpabaaDoor.P Go.Proofs.YtnoiijdffdpabaaDoor.Help Go.Proofs.YtnoiijdffdpabaaDoorW.PrintWords
set_option linter.unusedVariables false
set_option linter.unusedSimpArgs false
theorem and255 (x : Int) : 0 ≤ bits .and .i64 x 255 ∧ bits .and .i64 x 255 ≤ 255 := by
 have h : ∀ n : Nat, n ≤ 255 → 0 ≤ IntKind.i64.wrap (n : Int) ∧ IntKind.i64.wrap (n : Int) ≤ 255 := by
  intro n hn
  simp [IntKind.wrap, IntKind.signed, IntKind.bits]
  split <;> omega
 unfold bits
 refine h _ ?_
 show (BitVec.ofInt IntKind.i64.bits x &&& BitVec.ofInt IntKind.i64.bits 255).toNat ≤ 255
 rw [BitVec.toNat_and]
 refine Nat.le_trans Nat.and_le_right ?_
 decide
/-- A cursor over bytes. -/
def Cur (b : List Int) (i : Int) : Prop := 0 ≤ i ∧ i ≤ 4000000000 ∧ (b.length : Int) ≤ 1048576
theorem Cur.start {b : List Int} (h : b.length ≤ 1048576) : Cur b 0 := ⟨by decide, by decide, by omega⟩
theorem byte_ok {b : List Int} {i : Int} (h : Int) (hc : Cur b i) : ∃ x i' h', spec_l1Byte.f b i h = some (x, i', h') ∧ 0 ≤ x ∧ x ≤ 255 ∧ Cur b i' := by
 obtain ⟨c1, c2, c3⟩ := hc
 unfold spec_l1Byte.f
 by_cases h1 : i < (b.length : Int)
 ·rw [if_pos h1, if_pos c1]
  refine ⟨_, _, _, rfl, (and255 _).1, (and255 _).2, ?_⟩
  rw [w_id (by omega) (by omega)]
  exact ⟨by omega, by omega, c3⟩
 ·rw [if_neg h1]
  exact ⟨_, _, _, rfl, (and255 _).1, (and255 _).2, c1, c2, c3⟩
theorem tmod_ok {x n : Int} (hx : 0 ≤ x) (hn : 0 < n) : 0 ≤ Int.tmod x n ∧ Int.tmod x n < n := by
 rw [Int.tmod_eq_emod_of_nonneg hx]
 exact ⟨Int.emod_nonneg _ (by omega), Int.emod_lt_of_pos _ hn⟩
theorem below_ok {b : List Int} {i : Int} (h n : Int) (hc : Cur b i) (hn : 0 < n) : ∃ x i' h', spec_l1Below.f b i h n = some (x, i', h') ∧ 0 ≤ x ∧ x < n ∧ Cur b i' := by
 unfold spec_l1Below.f
 rw [if_neg (by omega)]
 by_cases h1 : n ≤ 256
 ·rw [if_pos h1]
  obtain ⟨x, i', h', e, x0, x1, c'⟩ := byte_ok h hc
  rw [e, Option.bind_some, if_neg (by omega)]
  have := tmod_ok x0 hn
  exact ⟨_, _, _, rfl, this.1, this.2, c'⟩
 ·rw [if_neg h1]
  obtain ⟨x, i1, h1', e1, x0, x1, c1⟩ := byte_ok h hc
  obtain ⟨y, i2, h2', e2, y0, y1, c2⟩ := byte_ok h1' c1
  obtain ⟨z, i3, h3', e3, z0, z1, c3⟩ := byte_ok h2' c2
  obtain ⟨v, i4, h4', e4, v0, v1, c4⟩ := byte_ok h3' c3
  rw [e1, Option.bind_some]
  dsimp only
  rw [e2, Option.bind_some]
  dsimp only
  rw [e3, Option.bind_some]
  dsimp only
  rw [e4, Option.bind_some]
  dsimp only
  rw [if_neg (by omega), w_id (a := x * 16777216) (by omega) (by omega), w_id (a := y * 65536) (by omega) (by omega), w_id (a := z * 256) (by omega) (by omega), w_id (a := x * 16777216 + y * 65536) (by omega) (by omega), w_id (a := x * 16777216 + y * 65536 + z * 256) (by omega) (by omega), w_id (by omega) (by omega)]
  have := tmod_ok (show 0 ≤ x * 16777216 + y * 65536 + z * 256 + v by omega) hn
  exact ⟨_, _, _, rfl, this.1, this.2, c4⟩
theorem once_ok {b : List Int} {i : Int} (h n : Int) (hc : Cur b i) (hn : 0 < n) : ∃ x i' h', spec_l1Once.f b i h n = some (x, i', h') ∧ Cur b i' := by
 obtain ⟨x, i', h', e, _, _, c'⟩ := below_ok h n hc hn
 unfold spec_l1Once.f
 rw [e]
 exact ⟨_, _, _, rfl, c'⟩
theorem rd_mem {l : List Int} {x : Int} (h0 : 0 ≤ x) (h1 : x < (l.length : Int)) : rd l x ∈ l := by
 obtain ⟨n, rfl⟩ := Int.eq_ofNat_of_zero_le h0
 rw [rd_nat l n (by omega)]
 exact List.getElem_mem _
theorem pickInt_ok {b : List Int} {i : Int} (h : Int) (l : List Int) (hc : Cur b i) (hl : 0 < l.length) : ∃ x i' h', spec_l1PickInt.f b i h l = some (x, i', h') ∧ x ∈ l ∧ Cur b i' := by
 obtain ⟨x, i', h', e, x0, x1, c'⟩ := below_ok h (l.length : Int) hc (by omega)
 unfold spec_l1PickInt.f
 rw [e, Option.bind_some, if_pos x0, if_pos x1]
 exact ⟨_, _, _, rfl, rd_mem x0 x1, c'⟩
theorem rdOf_mem {α : Type} {d : α} {l : List α} {x : Int} (h0 : 0 ≤ x) (h1 : x < (l.length : Int)) : rdOf d l x ∈ l := by
 obtain ⟨n, rfl⟩ := Int.eq_ofNat_of_zero_le h0
 have hn : n < l.length := by omega
 unfold rdOf
 simp [List.getD_eq_getElem?_getD, List.getElem?_eq_getElem hn]
theorem pick_ok {b : List Int} {i : Int} (h : Int) (l : List ByteArray) (hc : Cur b i) (hl : 0 < l.length) : ∃ x i' h', spec_l1Pick.f b i h l = some (x, i', h') ∧ x ∈ l ∧ Cur b i' := by
 obtain ⟨x, i', h', e, x0, x1, c'⟩ := below_ok h (l.length : Int) hc (by omega)
 unfold spec_l1Pick.f
 rw [e, Option.bind_some, if_pos x0, if_pos x1]
 exact ⟨_, _, _, rfl, rdOf_mem x0 x1, c'⟩
theorem bit_ok (x : Bool) : spec_l1Bit.f x = some (if x = true then 1 else 0) := by
 unfold spec_l1Bit.f
 split <;> rfl
theorem new_l0 (l : List Int) (hl : l.length ≤ 1048576) : ∀ (d k : Nat) (h i : Int), i + d = 4000 → 0 ≤ i → d < k → ∃ h', spec_l1New.l0 k l h i = some (l, 0, h')
 | 0, k, h, i, hi, h0, hk => by
  obtain ⟨k, rfl⟩ : ∃ m, k = m + 1 := ⟨k - 1, by omega⟩
  simp only [spec_l1New.l0]
  by_cases c : i < (l.length : Int)
  ·rw [if_pos c, if_neg (by omega)]; exact ⟨_, rfl⟩
  ·rw [if_neg c]; exact ⟨_, rfl⟩
 | d + 1, k, h, i, hi, h0, hk => by
  obtain ⟨k, rfl⟩ : ∃ m, k = m + 1 := ⟨k - 1, by omega⟩
  simp only [spec_l1New.l0]
  by_cases c : i < (l.length : Int)
  ·rw [if_pos c, if_pos (by omega), if_pos h0, w_id (a := i + 1) (by omega) (by omega)]
   exact new_l0 l hl d k _ (i + 1) (by omega) (by omega) (by omega)
  ·rw [if_neg c]; exact ⟨_, rfl⟩
theorem new_ok (l : List Int) (hl : l.length ≤ 1048576) (k : Nat) (hk : 4000 < k) : ∃ h', spec_l1New.f k l = some (l, 0, h') := by
 unfold spec_l1New.f
 exact new_l0 l hl 4000 k _ 0 (by omega) (by omega) hk
end Go.Proofs.YtnoiijdffdpabaaDoor.L

namespace Go.Proofs.YtnoiijdffdpabaaDoor.L
open Go Go.RowKit Go.Proofs.YtnoiijdffdpabaaDoor.P Go.Proofs.YtnoiijdffdpabaaDoor.Help Go.Proofs.YtnoiijdffdpabaaDoorW.PrintWords
set_option linter.unusedVariables false
set_option linter.unusedSimpArgs false
theorem draw12_ok {b : List Int} {i : Int} (h : Int) (hc : Cur b i) (k : Nat) (hk : 1001 < k) : ∃ p q i' h', spec_l12Draw.f k b i h = some (p, q, i', h') ∧ Cur b i' := by
 unfold spec_l12Draw.f
 obtain ⟨x1, i1, h1, e1, _, _, c1⟩ := below_ok h 25 hc (by decide)
 rw [e1, Option.bind_some]
 dsimp only
 obtain ⟨x2, i2, h2, e2, _, _, c2⟩ := below_ok h1 13 c1 (by decide)
 rw [e2, Option.bind_some]
 dsimp only
 obtain ⟨x3, i3, h3, e3, c3⟩ := once_ok h2 2 c2 (by decide)
 rw [e3, Option.bind_some]
 dsimp only
 rw [bit_ok, Option.bind_some, spec_slope _ _ k hk, Option.bind_some]
 obtain ⟨x4, i4, h4, e4, _, _, c4⟩ := below_ok h3 20 c3 (by decide)
 rw [e4, Option.bind_some]
 dsimp only
 by_cases q1 : x4 = 0
 ·rw [if_pos q1]
  obtain ⟨x5, i5, h5, e5, _, c5⟩ := pickInt_ok h4 [1, -1, 2, 0] c4 (by decide)
  rw [e5, Option.bind_some]
  dsimp only
  obtain ⟨x6, i6, h6, e6, _, c6⟩ := pickInt_ok h5 [0, -1, 2, 1001] c5 (by decide)
  rw [e6, Option.bind_some]
  exact ⟨_, _, _, _, rfl, c6⟩
 ·rw [if_neg q1]
  by_cases q2 : x4 = 1
  ·rw [if_pos q2]
   exact ⟨_, _, _, _, rfl, c4⟩
  ·rw [if_neg q2]
   exact ⟨_, _, _, _, rfl, c4⟩
end Go.Proofs.YtnoiijdffdpabaaDoor.L

namespace Go.Proofs.YtnoiijdffdpabaaDoor.L
open Go Go.RowKit Go.Proofs.YtnoiijdffdpabaaDoor.P Go.Proofs.YtnoiijdffdpabaaDoor.Help Go.Proofs.YtnoiijdffdpabaaDoorW.PrintWords
set_option linter.unusedVariables false
set_option linter.unusedSimpArgs false
theorem word_l0 {b : List Int} : ∀ (d k : Nat) (o : ByteArray) (n i h : Int), Cur b i → n ≤ d → d < k → o.size + d ≤ 1000000 → ∃ s i' h', spec_l13Word.l0 k o n b i h = some (s, i', h') ∧ s.size ≤ o.size + d ∧ Cur b i'
 | 0, k, o, n, i, h, hc, hn, hk, ho => by
  obtain ⟨k, rfl⟩ : ∃ m, k = m + 1 := ⟨k - 1, by omega⟩
  simp only [spec_l13Word.l0]
  rw [if_neg (by omega)]
  exact ⟨_, _, _, rfl, Nat.le_refl _, hc⟩
 | d + 1, k, o, n, i, h, hc, hn, hk, ho => by
  obtain ⟨k, rfl⟩ : ∃ m, k = m + 1 := ⟨k - 1, by omega⟩
  simp only [spec_l13Word.l0]
  by_cases c : n > 0
  ·rw [if_pos c]
   obtain ⟨x, i1, h1, e1, hx, c1⟩ := pick_ok h [(⟨#[82]⟩ : ByteArray), (⟨#[76]⟩ : ByteArray), (⟨#[114]⟩ : ByteArray), (⟨#[108]⟩ : ByteArray)] hc (by decide)
   have hs : x.size = 1 := by
    simp only [List.mem_cons, List.not_mem_nil, or_false] at hx
    rcases hx with rfl | rfl | rfl | rfl <;> rfl
   rw [e1, Option.bind_some]
   dsimp only
   rw [if_pos (by rw [hs]; omega), w_id (a := n - 1) (by omega) (by omega)]
   obtain ⟨s, i', h', e, l, c'⟩ := word_l0 d k (o ++ x) (n - 1) i1 h1 c1 (by omega) (by omega) (by rw [ByteArray.size_append, hs]; omega)
   exact ⟨s, i', h', e, by rw [ByteArray.size_append, hs] at l; omega, c'⟩
  ·rw [if_neg c]
   exact ⟨_, _, _, rfl, by omega, hc⟩
theorem word_ok {b : List Int} {i : Int} (h : Int) (n : Int) (hc : Cur b i) (h0 : 0 ≤ n) (h1 : n ≤ 1000) (k : Nat) (hk : 1001 < k) : ∃ s i' h', spec_l13Word.f k b i h n = some (s, i', h') ∧ s.size ≤ 1000 ∧ Cur b i' := by
 unfold spec_l13Word.f
 rw [w_id (by omega) (by omega)]
 obtain ⟨x, i1, h1, e1, x0, x1, c1⟩ := below_ok h (n + 1) hc (by omega)
 rw [e1, Option.bind_some]
 dsimp only
 obtain ⟨s, i', h', e, l, c'⟩ := word_l0 1000 k (⟨#[]⟩ : ByteArray) x i1 h1 c1 (by omega) (by omega) (by decide)
 exact ⟨s, i', h', e, by
  have : (⟨#[]⟩ : ByteArray).size = 0 := rfl
  omega, c'⟩
theorem draw13_ok {b : List Int} {i : Int} (h : Int) (hc : Cur b i) (k : Nat) (hk : 1001 < k) : ∃ a1 a2 a3 a4 i' h', spec_l13Draw.f k b i h = some (a1, a2, a3, a4, i', h') ∧ Cur b i' := by
 unfold spec_l13Draw.f
 obtain ⟨s, i1, h1, e1, hs, c1⟩ := word_ok h 6 hc (by decide) (by decide) k hk
 rw [e1, Option.bind_some]
 dsimp only
 rw [spec_turnsOf s (by omega) k (by omega), Option.bind_some]
 obtain ⟨x2, i2, h2, e2, _, _, c2⟩ := below_ok h1 14 c1 (by decide)
 rw [e2, Option.bind_some]
 dsimp only
 split
 ·obtain ⟨x3, i3, h3, e3, _, _, c3⟩ := below_ok h2 3 c2 (by decide)
  rw [e3, Option.bind_some]
  dsimp only
  obtain ⟨x4, i4, h4, e4, _, _, c4⟩ := below_ok h3 3 c3 (by decide)
  rw [e4, Option.bind_some]
  dsimp only
  obtain ⟨x5, i5, h5, e5, _, _, c5⟩ := below_ok h4 3 c4 (by decide)
  rw [e5, Option.bind_some]
  dsimp only
  obtain ⟨x6, i6, h6, e6, _, _, c6⟩ := below_ok h5 3 c5 (by decide)
  rw [e6, Option.bind_some]
  exact ⟨_, _, _, _, _, _, rfl, c6⟩
 ·split
  ·exact ⟨_, _, _, _, _, _, rfl, c2⟩
  ·split
   ·exact ⟨_, _, _, _, _, _, rfl, c2⟩
   ·exact ⟨_, _, _, _, _, _, rfl, c2⟩
theorem drawMove_ok (l : List Int) (hl : l.length ≤ 1048576) (k : Nat) (hk : 4001 < k) : ∃ a1 a2 a3 a4 p q, spec_DrawMoveSlope.f k l = some (a1, a2, a3, a4, p, q) := by
 unfold spec_DrawMoveSlope.f
 obtain ⟨h0, e0⟩ := new_ok l hl k (by omega)
 rw [e0, Option.bind_some]
 dsimp only
 obtain ⟨a1, a2, a3, a4, i1, h1, e1, c1⟩ := draw13_ok h0 (Cur.start hl) k (by omega)
 rw [e1, Option.bind_some]
 dsimp only
 obtain ⟨p, q, i2, h2, e2, c2⟩ := draw12_ok h1 c1 k (by omega)
 rw [e2]
 exact ⟨_, _, _, _, _, _, rfl⟩
end Go.Proofs.YtnoiijdffdpabaaDoor.L

namespace Go.Proofs.YtnoiijdffdpabaaDoor.L
open Go Go.RowKit Go.Proofs.YtnoiijdffdpabaaDoor.P Go.Proofs.YtnoiijdffdpabaaDoor.Help Go.Proofs.YtnoiijdffdpabaaDoorW.PrintWords
set_option linter.unusedVariables false
set_option linter.unusedSimpArgs false
theorem drawTimes_ok (l : List Int) (hl : l.length ≤ 1048576) (k : Nat) (hk : 4001 < k) : ∃ a b c d e f g h, spec_DrawTimesMatrix.f k l = some (a, b, c, d, e, f, g, h) := by
 unfold spec_DrawTimesMatrix.f
 obtain ⟨h0, e0⟩ := new_ok l hl k (by omega)
 rw [e0, Option.bind_some]
 dsimp only
 obtain ⟨a1, a2, a3, a4, i1, h1, e1, c1⟩ := draw13_ok h0 (Cur.start hl) k (by omega)
 rw [e1, Option.bind_some]
 dsimp only
 obtain ⟨b1, b2, b3, b4, i2, h2, e2, c2⟩ := draw13_ok h1 c1 k (by omega)
 rw [e2]
 exact ⟨_, _, _, _, _, _, _, _, rfl⟩
theorem drawTurnsOf_ok (l : List Int) (hl : l.length ≤ 1048576) (k : Nat) (hk : 4001 < k) : ∃ s, spec_DrawTurnsOf.f k l = some s ∧ s.size ≤ 1000 := by
 unfold spec_DrawTurnsOf.f
 obtain ⟨h0, e0⟩ := new_ok l hl k (by omega)
 rw [e0, Option.bind_some]
 dsimp only
 obtain ⟨x1, i1, h1, e1, c1⟩ := once_ok h0 12 (Cur.start hl) (by decide)
 rw [e1, Option.bind_some]
 dsimp only
 split
 ·obtain ⟨x, i2, h2, e2, hx, c2⟩ := pick_ok h1 [(⟨#[120]⟩ : ByteArray), (⟨#[82, 76, 82, 76, 82, 76, 82, 76, 82, 76, 82, 76, 82, 76, 82, 76, 82, 76, 82, 76, 82, 76, 82, 76]⟩ : ByteArray), (⟨#[82, 82, 82, 82, 82, 82, 82, 82, 82, 82, 82, 82, 82, 82, 82, 82, 82, 82, 82, 82, 82, 82, 82, 82, 82]⟩ : ByteArray), (⟨#[]⟩ : ByteArray)] c1 (by decide)
  rw [e2]
  refine ⟨x, rfl, ?_⟩
  simp only [List.mem_cons, List.not_mem_nil, or_false] at hx
  rcases hx with rfl | rfl | rfl | rfl <;> decide
 ·obtain ⟨s, i2, h2, e2, hs, c2⟩ := word_ok h1 10 c1 (by decide) (by decide) k (by omega)
  rw [e2]
  exact ⟨s, rfl, hs⟩
theorem drawTurnsTo_ok (l : List Int) (hl : l.length ≤ 1048576) (k : Nat) (hk : 4001 < k) : ∃ p q, spec_DrawTurnsTo.f k l = some (p, q) := by
 unfold spec_DrawTurnsTo.f
 obtain ⟨h0, e0⟩ := new_ok l hl k (by omega)
 rw [e0, Option.bind_some]
 dsimp only
 obtain ⟨p, q, i1, h1, e1, c1⟩ := draw12_ok h0 (Cur.start hl) k (by omega)
 rw [e1, Option.bind_some]
 dsimp only
 unfold spec_l3Abs.f spec_l1Max.f
 split <;> exact ⟨_, _, rfl⟩
end Go.Proofs.YtnoiijdffdpabaaDoor.L

namespace Go.Proofs.YtnoiijdffdpabaaDoor.L
open Go Go.RowKit Go.Proofs.YtnoiijdffdpabaaDoor.P Go.Proofs.YtnoiijdffdpabaaDoor.Help Go.Proofs.YtnoiijdffdpabaaDoorW.PrintWords
set_option linter.unusedVariables false
set_option linter.unusedSimpArgs false
theorem slope_gen {p q : Int} (hp : -1000 ≤ p ∧ p ≤ 1000) (hq : -1000 ≤ q ∧ q ≤ 1000) (h0 : ¬ (p = 0 ∧ q = 0)) : ∃ g m n e : Int, 0 < g ∧ p = g * m ∧ q = g * n ∧ (e = 1 ∨ e = -1) ∧ slopeR p q = (e * m, e * n, true) ∧ isS (e * m) (e * n) = true := by
 obtain ⟨g, m, n, hg, hgg, hm, hn, tm, tn, s1, s2, s3, s4, b1, b2⟩ := parts p q h0
 have hmn : Int.gcd m n = 1 := by
  have h1 : Int.gcd p q = g.natAbs * Int.gcd m n := by rw [hm, hn, Int.gcd_mul_left]
  have h2 : g.natAbs * Int.gcd m n = g.natAbs * 1 := by omega
  exact Nat.eq_of_mul_eq_mul_left (by omega) h2
 have key : ∀ e : Int, (e = 1 ∨ e = -1) → 0 ≤ e * n → (n = 0 → 0 ≤ e * m) → isS (e * m) (e * n) = true := by
  intro e he h1 h2
  have a1 : (e * m).natAbs = m.natAbs := by rcases he with rfl | rfl <;> simp
  have a2 : (e * n).natAbs = n.natAbs := by rcases he with rfl | rfl <;> simp
  refine decide_eq_true ⟨by omega, by omega, ?_, ?_⟩
  ·unfold Int.gcd at *
   rw [a1, a2]
   exact hmn
  ·intro h3
   have h4 : n = 0 := by omega
   have h6 := h2 h4
   subst h4
   have h5 : m.natAbs = 1 := by simpa [Int.gcd] using hmn
   omega
 rw [slopeR_yes ⟨hp, hq, h0⟩, hgg, tm, tn]
 by_cases c : q < 0 ∨ (q = 0 ∧ p < 0)
 ·rw [if_pos c]
  exact ⟨g, m, n, -1, hg, hm, hn, .inr rfl, by simp, key (-1) (.inr rfl) (by omega) (by omega)⟩
 ·rw [if_neg c]
  exact ⟨g, m, n, 1, hg, hm, hn, .inl rfl, by simp, key 1 (.inl rfl) (by omega) (by omega)⟩
/-- A slope of an eigenvector is kept. -/
theorem eigen {a b c d t p q : Int} (hm : isM a b c d = true) (ht : t = 1 ∨ t = -1) (hp : -1000 ≤ p ∧ p ≤ 1000) (hq : -1000 ≤ q ∧ q ≤ 1000) (h0 : ¬ (p = 0 ∧ q = 0)) (e1 : a * p + b * q = t * p) (e2 : c * p + d * q = t * q) :
  (slopeR p q).2.2 = true ∧ moveR a b c d (slopeR p q).1 (slopeR p q).2.1 = ((slopeR p q).1, (slopeR p q).2.1, true) := by
 obtain ⟨g, m, n, e, hg, hm1, hn1, he, es, is⟩ := slope_gen hp hq h0
 rw [es]
 dsimp only
 refine ⟨rfl, ?_⟩
 have f1 : a * m + b * n = t * m := by
  rw [hm1, hn1] at e1
  have : g * (a * m + b * n) = g * (t * m) := by grind
  exact Int.eq_of_mul_eq_mul_left (by omega) this
 have f2 : c * m + d * n = t * n := by
  rw [hm1, hn1] at e2
  have : g * (c * m + d * n) = g * (t * n) := by grind
  exact Int.eq_of_mul_eq_mul_left (by omega) this
 unfold moveR
 rw [if_pos ⟨hm, is⟩]
 have g1 : a * (e * m) + b * (e * n) = t * (e * m) := by
  have : a * (e * m) + b * (e * n) = e * (a * m + b * n) := by grind
  rw [this, f1]; grind
 have g2 : c * (e * m) + d * (e * n) = t * (e * n) := by
  have : c * (e * m) + d * (e * n) = e * (c * m + d * n) := by grind
  rw [this, f2]; grind
 rw [g1, g2]
 obtain ⟨b1, b2, b3, b4⟩ := isS_true is
 obtain ⟨y, hy, ey, iy⟩ := slope_prim (p := t * (e * m)) (q := t * (e * n)) (by rcases ht with rfl | rfl <;> omega) (by rcases ht with rfl | rfl <;> omega) (by rcases ht with rfl | rfl <;> simpa using b3)
 rw [ey]
 obtain ⟨u, v⟩ := par_same (e := y * t) (by rcases ht with rfl | rfl <;> rcases hy with rfl | rfl <;> decide) iy is (by rw [Int.mul_assoc]) (by rw [Int.mul_assoc])
 rw [u, v]
theorem fix_case {a b c d : Int} (h : isM a b c d = true ∧ ¬ (b = 0 ∧ c = 0) ∧ (a + d = 2 ∨ a + d = -2)) : ∃ p q, fixR a b c d = [⟨p, q⟩] ∧ moveR a b c d p q = (p, q, true) := by
 obtain ⟨t, et, ht⟩ := half h.2.2
 obtain ⟨h1, h2, h3, h4, h5⟩ := isM_true h.1
 have ht1 : t = 1 ∨ t = -1 := by omega
 have htt : t * t = 1 := by rcases ht1 with rfl | rfl <;> decide
 have hd : d = 2 * t - a := by omega
 rw [fixR_yes h et]
 by_cases c0 : a - t = 0 ∧ c = 0
 ·rw [if_pos c0]
  have ha : a = t := by omega
  have hdt : d - t = 0 := by omega
  obtain ⟨k1, k2⟩ := eigen (t := t) (p := b) (q := d - t) h.1 ht1 h2 (by omega) (by omega) (by rw [hdt, ha, Int.mul_zero, Int.add_zero]) (by rw [hdt, c0.2, Int.mul_zero, Int.mul_zero, Int.zero_mul, Int.add_zero])
  rw [if_pos k1]
  exact ⟨_, _, rfl, k2⟩
 ·rw [if_neg c0]
  have hbc : b * c = a * d - 1 := by omega
  obtain ⟨k1, k2⟩ := eigen (t := t) (p := a - t) (q := c) h.1 ht1 (by omega) h3 c0 (by
   rw [hbc, hd]
   have : a * (a - t) + (a * (2 * t - a) - 1) = a * t - 1 := by grind
   rw [this, Int.mul_sub, htt, Int.mul_comm]) (by rw [hd]; grind)
  exact ⟨_, _, rfl, k2⟩
theorem rdM_of {xs : List S35} {i : Nat} (h : i < xs.length) : rd_T35 xs (i : Int) = xs[i] := by
 unfold rd_T35
 simp [List.getD_eq_getElem?_getD, List.getElem?_eq_getElem h]
theorem sameM_l0 (xs : List S35) (hx : xs.length ≤ 1000000000000) : ∀ (d k i : Nat), i + d = xs.length → d < k → laws_sameSlopes.l0 k xs xs (i : Int) = some true
 | 0, k, i, hi, hk => by
  obtain ⟨k, rfl⟩ : ∃ m, k = m + 1 := ⟨k - 1, by omega⟩
  simp only [laws_sameSlopes.l0]
  rw [if_neg (by omega)]
 | d + 1, k, i, hi, hk => by
  obtain ⟨k, rfl⟩ : ∃ m, k = m + 1 := ⟨k - 1, by omega⟩
  simp only [laws_sameSlopes.l0]
  rw [if_pos (by omega), if_pos (by omega), if_pos (by omega), if_neg (by simp), w_id (by omega) (by omega), show ((i : Int) + 1) = ((i + 1 : Nat) : Int) by omega]
  exact sameM_l0 xs hx d k (i + 1) (by omega) (by omega)
theorem sameM_ok (xs : List S35) (hx : xs.length ≤ 1000000000000) (k : Nat) (hk : xs.length < k) : laws_sameSlopes.f k xs xs = some true := by
 unfold laws_sameSlopes.f
 rw [if_pos rfl]
 exact sameM_l0 xs hx xs.length k 0 (by omega) hk
theorem ord_kind {a b c d : Int} (h : isM a b c d = true) : ((kindB a b c d).toList = [105, 100, 101, 110, 116, 105, 116, 121] ∧ ordR a b c d > 0 ∧ fixR a b c d = []) ∨ ((kindB a b c d).toList = [112, 101, 114, 105, 111, 100, 105, 99] ∧ ordR a b c d > 0 ∧ fixR a b c d = []) ∨
  ((kindB a b c d).toList = [116, 119, 105, 115, 116] ∧ ordR a b c d = 0 ∧ (fixR a b c d).length = 1) ∨ ((kindB a b c d).toList = [115, 116, 114, 101, 116, 99, 104] ∧ ordR a b c d = 0 ∧ fixR a b c d = []) := by
 rcases kind_cases h with ⟨h1, h2⟩ | ⟨h1, h2, h3⟩ | ⟨h1, h2, ⟨h3, h4⟩ | ⟨h3, h4⟩⟩
 ·refine .inl ⟨h2, ?_, fixR_no (fun h => h.2.1 h1)⟩
  unfold ordR
  rw [if_pos h, if_pos h1]
  split <;> decide
 ·refine .inr (.inl ⟨h3, ?_, fixR_no (fun h => by omega)⟩)
  unfold ordR
  rw [if_pos h, if_neg h1]
  split
  ·decide
  ·split
   ·decide
   ·rw [if_pos (by omega)]; decide
 ·obtain ⟨p, q, e, _⟩ := fix_case ⟨h, h1, h3⟩
  exact .inr (.inr (.inl ⟨h4, ordR_none h h1 h2, by rw [e]; rfl⟩))
 ·exact .inr (.inr (.inr ⟨h4, ordR_none h h1 h2, fixR_no (fun h => h3 h.2.2)⟩))
theorem fix_moves {a b c d : Int} (i : Nat) (hi : i < (fixR a b c d).length) : moveR a b c d (fixR a b c d)[i].f0 (fixR a b c d)[i].f1 = ((fixR a b c d)[i].f0, (fixR a b c d)[i].f1, true) := by
 by_cases c0 : isM a b c d = true ∧ ¬ (b = 0 ∧ c = 0) ∧ (a + d = 2 ∨ a + d = -2)
 ·obtain ⟨p, q, e, hm⟩ := fix_case c0
  have h0 : i = 0 := by rw [e] at hi; simpa using hi
  subst h0
  simp only [e, List.getElem_cons_zero]
  exact hm
 ·exact absurd hi (by rw [fixR_no c0]; simp)
theorem fm_l0 {a b c d : Int} (h : isM a b c d = true) : ∀ (dd k i : Nat), i + dd = (fixR a b c d).length → 2000 + dd < k → laws_FnMatrices.l0 k (fixR a b c d) (i : Int) a b c d = some true
 | 0, k, i, hi, hk => by
  obtain ⟨k, rfl⟩ : ∃ m, k = m + 1 := ⟨k - 1, by omega⟩
  simp only [laws_FnMatrices.l0]
  rw [if_neg (by omega), impl_inv _ _ _ _ k (by omega), inv_eq, Option.bind_some]
  unfold invR
  rw [if_pos h]
  dsimp only
  rw [impl_times _ _ _ _ _ _ _ _ k (by omega), times_inv h, Option.bind_some]
  dsimp only
  rw [if_pos rfl, if_pos (by decide), impl_ord _ _ _ _ k (by omega), Option.bind_some, impl_kind _ _ _ _ k (by omega), Option.bind_some]
  rcases ord_kind h with ⟨h1, h2, h3⟩ | ⟨h1, h2, h3⟩ | ⟨h1, h2, h3⟩ | ⟨h1, h2, h3⟩
  ·rw [if_pos h1, if_pos (by simpa using h2), Option.bind_some, h1, h3]
   decide
  ·rw [if_neg (by rw [h1]; decide), Option.bind_some, h1, if_pos (by rw [decide_eq_true h2]; decide), Option.bind_some, h1, h3]
   decide
  ·rw [if_neg (by rw [h1]; decide), Option.bind_some, h1, if_pos (by rw [h2]; decide), Option.bind_some, h1, h3]
   decide
  ·rw [if_neg (by rw [h1]; decide), Option.bind_some, h1, if_pos (by rw [h2]; decide), Option.bind_some, h1, h3]
   decide
 | dd + 1, k, i, hi, hk => by
  obtain ⟨k, rfl⟩ : ∃ m, k = m + 1 := ⟨k - 1, by omega⟩
  have hlt : i < (fixR a b c d).length := by omega
  have hl := fixR_len a b c d
  have hmv := fix_moves i hlt
  simp only [laws_FnMatrices.l0]
  rw [if_pos (by omega), if_pos (by omega), rdM_of hlt, impl_move _ _ _ _ _ _ k (by omega), hmv, Option.bind_some]
  dsimp only
  rw [if_pos rfl, if_neg (by simp), w_id (by omega) (by omega), show ((i : Int) + 1) = ((i + 1 : Nat) : Int) by omega]
  exact fm_l0 h dd k (i + 1) (by omega) (by omega)
theorem fm_j2 (a b c d : Int) (k : Nat) (hk : 2010 < k) : laws_FnMatrices.j2 k a b c d = some true := by
 obtain ⟨k, rfl⟩ : ∃ m, k = m + 1 := ⟨k - 1, by omega⟩
 simp only [laws_FnMatrices.j2]
 rw [spec_isM _ _ _ _ k (by omega), Option.bind_some]
 by_cases h : isM a b c d = true
 ·have hl := fixR_len a b c d
  rw [if_pos h, impl_fixed _ _ _ _ k (by omega), Option.bind_some]
  exact fm_l0 h (fixR a b c d).length k 0 (by omega) (by omega)
 ·rw [if_neg h, impl_kind _ _ _ _ k (by omega), Option.bind_some, if_pos (isM_false_kind h), impl_ord _ _ _ _ k (by omega), Option.bind_some]
  unfold ordR
  rw [if_neg h]
  rfl
theorem turns_ok {p q : Int} (hne : (ba (turnsToL p q)).toList ≠ []) (ht : (turnsOfR (ba (turnsToL p q))).2.2.2.2 = true) :
  moveR (turnsOfR (ba (turnsToL p q))).1 (turnsOfR (ba (turnsToL p q))).2.1 (turnsOfR (ba (turnsToL p q))).2.2.1 (turnsOfR (ba (turnsToL p q))).2.2.2.1 1 1 = (p, q, true) := by
 unfold turnsToL at *
 split at hne
 ·rename_i h
  rw [if_pos h] at ht ⊢
  split at hne
  ·exact absurd (by rw [toList_data]; rfl) hne
  ·rename_i hl
   rw [if_neg hl] at ht ⊢
   obtain ⟨b1, b2, b3, b4⟩ := isS_true h.1
   unfold turnsOfR at ht ⊢
   have hsz : (ba (tw 2000 p q)).size = (tw 2000 p q).length := ba_size _
   rw [if_neg (by omega)] at ht ⊢
   rw [hsz] at ht ⊢
   obtain ⟨r1, r2, r3⟩ := turns_move (ba (tw 2000 p q)) 2000 (tw 2000 p q).length 0 1 0 0 1 p q (by simp [ba]) rfl (by rw [hsz]; omega) h.2.1 h.2.2 (by omega) b3 (by decide) ht
   unfold moveR
   rw [if_pos ⟨r1, by decide⟩, Int.mul_one, Int.mul_one, Int.mul_one, Int.mul_one, r2, r3, Int.one_mul, Int.zero_mul, Int.zero_mul, Int.one_mul, Int.add_zero, Int.zero_add]
   exact slope_self h.1
 ·exact absurd (by rw [toList_data]; rfl) hne
theorem fm_j1 (a b c d p q : Int) (k : Nat) (hk : 3010 < k) : laws_FnMatrices.j1 k (ba (turnsToL p q)) a b c d p q = some true := by
 obtain ⟨k, rfl⟩ : ∃ m, k = m + 1 := ⟨k - 1, by omega⟩
 have hl : (ba (turnsToL p q)).size ≤ 9000000000000000000 := by
  rw [ba_size]
  unfold turnsToL
  split
  ·split
   ·simp
   ·omega
  ·simp
 simp only [laws_FnMatrices.j1]
 split
 ·exact fm_j2 a b c d k (by omega)
 ·rename_i hne
  rw [impl_turnsOf _ hl k (by omega), Option.bind_some, impl_move _ _ _ _ _ _ k (by omega), Option.bind_some]
  split
  ·rename_i ht
   rw [turns_ok hne ht]
   dsimp only
   rw [if_pos rfl, if_neg (by simp)]
   exact fm_j2 a b c d k (by omega)
  ·exact fm_j2 a b c d k (by omega)
theorem fm_j0 (a b c d e f g h p q u v : Int) (k : Nat) (hk : 3020 < k) : laws_FnMatrices.j0 k (moveR e f g h p q).2.2 (ba (turnsToL u v)) a b c d e f g h p q (moveR e f g h p q).1 (moveR e f g h p q).2.1 u v = some true := by
 obtain ⟨k, rfl⟩ : ∃ m, k = m + 1 := ⟨k - 1, by omega⟩
 simp only [laws_FnMatrices.j0]
 split
 ·rename_i hm
  rw [impl_inv _ _ _ _ k (by omega), inv_eq, Option.bind_some, impl_move _ _ _ _ _ _ k (by omega), move_back hm, Option.bind_some]
  dsimp only
  rw [if_pos rfl, if_neg (by simp)]
  exact fm_j1 a b c d u v k (by omega)
 ·exact fm_j1 a b c d u v k (by omega)
theorem fm_f (l : List Int) (hl : l.length ≤ 1048576) : laws_FnMatrices.f 1000000 l = some true := by
 unfold laws_FnMatrices.f laws_big.f
 rw [Option.bind_some, if_neg (by simp; omega)]
 obtain ⟨a, b, c, d, e, f, g, h, e1⟩ := drawTimes_ok l hl 1000000 (by decide)
 obtain ⟨a2, b2, c2, d2, p, q, e2⟩ := drawMove_ok l hl 1000000 (by decide)
 obtain ⟨s, e3, hs⟩ := drawTurnsOf_ok l hl 1000000 (by decide)
 obtain ⟨u, v, e4⟩ := drawTurnsTo_ok l hl 1000000 (by decide)
 have j0 : ∀ x, x = laws_FnMatrices.j0 1000000 (moveR a2 b2 c2 d2 p q).2.2 (ba (turnsToL u v)) a b c d a2 b2 c2 d2 p q (moveR a2 b2 c2 d2 p q).1 (moveR a2 b2 c2 d2 p q).2.1 u v → x = some true := fun x hx => by rw [hx]; exact fm_j0 a b c d a2 b2 c2 d2 p q u v _ (by decide)
 have hfl := fixR_len a b c d
 rw [e1, Option.bind_some]
 dsimp only
 rw [impl_times _ _ _ _ _ _ _ _ _ (by decide), Option.bind_some, spec_times _ _ _ _ _ _ _ _ _ (by decide), Option.bind_some, e2, Option.bind_some]
 dsimp only
 rw [impl_move _ _ _ _ _ _ _ (by decide), Option.bind_some, spec_move _ _ _ _ _ _ _ (by decide), Option.bind_some, e3, Option.bind_some, impl_turnsOf s (by omega) _ (by decide), Option.bind_some, spec_turnsOf s (by omega) _ (by decide), Option.bind_some, e4, Option.bind_some]
 dsimp only
 rw [impl_turnsTo _ _ _ (by decide), Option.bind_some, if_neg (by simp), if_neg (by simp), if_neg (by simp), if_neg (by simp), if_neg (by simp), if_neg (by simp), spec_turnsTo _ _ _ (by decide), Option.bind_some, if_pos rfl, impl_isM _ _ _ _ _ (by decide), Option.bind_some, spec_isM _ _ _ _ _ (by decide), Option.bind_some, if_neg (by simp), impl_inv _ _ _ _ _ (by decide), Option.bind_some, spec_inv _ _ _ _ _ (by decide), Option.bind_some, if_neg (by simp), impl_tr _ _ _ _ _ (by decide), Option.bind_some, spec_tr _ _ _ _ _ (by decide), Option.bind_some, if_pos rfl, impl_kind _ _ _ _ _ (by decide), Option.bind_some, spec_kind _ _ _ _ _ (by decide), Option.bind_some, if_pos rfl, impl_ord _ _ _ _ _ (by decide), Option.bind_some, spec_ord _ _ _ _ _ (by decide), Option.bind_some, if_pos rfl, impl_fixed _ _ _ _ _ (by decide), Option.bind_some, spec_fixed _ _ _ _ _ (by decide), Option.bind_some, sameM_ok _ (by omega) _ (by omega), Option.bind_some, if_pos rfl, impl_mtext _ _ _ _ _ (by decide), Option.bind_some, spec_mtext _ _ _ _ _ (by decide), Option.bind_some, if_pos rfl]
 split
 ·rename_i ht
  rw [impl_move _ _ _ _ _ _ _ (by decide), Option.bind_some, impl_move _ _ _ _ _ _ _ (by decide), Option.bind_some, impl_move _ _ _ _ _ _ _ (by decide), Option.bind_some]
  split
  ·rename_i h1
   split
   ·rename_i h2
    split
    ·rename_i h3
     obtain ⟨k1, k2⟩ := move_times ht h1 h2 h3
     rw [if_neg (by rw [k1, k2]; simp)]
     exact j0 _ rfl
    ·exact j0 _ rfl
   ·exact j0 _ rfl
  ·exact j0 _ rfl
 ·exact j0 _ rfl
end Go.Proofs.YtnoiijdffdpabaaDoor.L

namespace Go.Proofs.YtnoiijdffdpabaaDoor.Pure
open Go.RowKit Go.Proofs.YtnoiijdffdpabaaDoor.P Go.Proofs.YtnoiijdffdpabaaDoor.Help Go.Proofs.YtnoiijdffdpabaaDoor.L
theorem FnMatrices : laws_FnMatrices.Pure := by
 intro l _ _ _
 by_cases hl : l.length ≤ 1048576
 ·exact ⟨_, fm_f l hl⟩
 ·refine ⟨1, ?_⟩
  unfold laws_FnMatrices.f laws_big.f
  rw [Option.bind_some, if_pos (by simp; omega)]
end Go.Proofs.YtnoiijdffdpabaaDoor.Pure
