/- The program's SlopeDistance answers as the reference's, for all arguments; no condition. -/
import Derived.Test.YtkblceinidiidaaQPx0
import Derived.Test.YtkblceinidiidaaQHelp
import Derived.Test.YtkblceinidiidaaQPx2
import Derived.Test.YtkblceinidiidaaQPx3
import Derived.Test.YtkblceinidiidaaQPx4
import Derived.Test.YtkblceinidiidaaQPx5
import Derived.Test.YtkblceinidiidaaQPx6

namespace Go.Proofs.Ytkblceinidiidaa.L
open Go.RowKit Go.Proofs.Ytkblceinidiidaa.P Go.Proofs.Ytkblceinidiidaa.Help Go.Proofs.YtkblceinidiidaaW.PrintWords
set_option linter.unusedVariables false
set_option linter.unusedSimpArgs false

theorem w_id {a : Int} (h0 : -9223372036854775808 ≤ a) (h1 : a ≤ 9223372036854775807) : wrap64 a = a := by unfold wrap64; omega
theorem mulb {a b A B : Int} (h1 : -A ≤ a) (h2 : a ≤ A) (h3 : -B ≤ b) (h4 : b ≤ B) : -(A * B) ≤ a * b ∧ a * b ≤ A * B := by
  have hA : 0 ≤ A := by omega
  have hB : 0 ≤ B := by omega
  have h : (a * b).natAbs ≤ (A * B).natAbs := by
    rw [Int.natAbs_mul, Int.natAbs_mul]
    exact Nat.mul_le_mul (by omega) (by omega)
  have hp : 0 ≤ A * B := Int.mul_nonneg hA hB
  omega
theorem rd_nat (xs : List Int) (i : Nat) (h : i < xs.length) : rd xs (i : Int) = xs[i] := by
  unfold rd
  simp [List.getD_eq_getElem?_getD, List.getElem?_eq_getElem h]
theorem bind_ite {α β : Type} {c : Prop} [Decidable c] (x y : Option α) (f : α → Option β) : (if c then x else y).bind f = if c then x.bind f else y.bind f := by split <;> rfl
theorem unit_of {a d : Int} (h : a * d = 1) : a = 1 ∨ a = -1 := by
  have h1 : a.natAbs * d.natAbs = 1 := by rw [← Int.natAbs_mul, h]; rfl
  have h2 : a.natAbs = 1 := Nat.eq_one_of_mul_eq_one_right h1
  omega
end Go.Proofs.Ytkblceinidiidaa.L

namespace Go.Proofs.Ytkblceinidiidaa.L
open Go.RowKit Go.Proofs.Ytkblceinidiidaa.P Go.Proofs.Ytkblceinidiidaa.Help Go.Proofs.YtkblceinidiidaaW.PrintWords
set_option linter.unusedVariables false
set_option linter.unusedSimpArgs false

theorem l1In_eq (a lo hi : Int) : spec_l1In.f a lo hi = some (decide (lo ≤ a ∧ a ≤ hi)) := by
  unfold spec_l1In.f
  by_cases h : lo ≤ a <;> simp [h]
theorem within_eq (a lo hi : Int) : impl_within.f a lo hi = some (decide (lo ≤ a ∧ a ≤ hi)) := by
  unfold impl_within.f
  by_cases h : lo ≤ a <;> simp [h]
end Go.Proofs.Ytkblceinidiidaa.L

namespace Go.Proofs.Ytkblceinidiidaa.L
open Go.RowKit Go.Proofs.Ytkblceinidiidaa.P Go.Proofs.Ytkblceinidiidaa.Help Go.Proofs.YtkblceinidiidaaW.PrintWords
set_option linter.unusedVariables false
set_option linter.unusedSimpArgs false

theorem l3Abs_eq {a : Int} (h0 : -9223372036854775807 ≤ a) (h1 : a ≤ 9223372036854775807) : spec_l3Abs.f a = some (a.natAbs : Int) := by
  unfold spec_l3Abs.f spec_l1Max.f
  rw [w_id (by omega) (by omega)]
  by_cases h : a > -a
  · rw [if_pos h]; simp only [Option.bind_some]; congr 1; omega
  · rw [if_neg h]; simp only [Option.bind_some]; congr 1; omega
theorem size_eq {a : Int} (h0 : -9223372036854775807 ≤ a) (h1 : a ≤ 9223372036854775807) : impl_size.f a = some (a.natAbs : Int) := by
  unfold impl_size.f
  rw [w_id (by omega) (by omega)]
  congr 1
  unfold mx
  split <;> omega
end Go.Proofs.Ytkblceinidiidaa.L

namespace Go.Proofs.Ytkblceinidiidaa.L
open Go.RowKit Go.Proofs.Ytkblceinidiidaa.P Go.Proofs.Ytkblceinidiidaa.Help Go.Proofs.YtkblceinidiidaaW.PrintWords
set_option linter.unusedVariables false
set_option linter.unusedSimpArgs false

theorem gcd_step (a b : Int) (hb : b ≠ 0) : Int.gcd b (a.tmod b) = Int.gcd a b := by
  show Nat.gcd b.natAbs (a.tmod b).natAbs = Nat.gcd a.natAbs b.natAbs
  rw [Int.natAbs_tmod, Nat.gcd_comm a.natAbs b.natAbs, Nat.gcd_comm b.natAbs (a.natAbs % b.natAbs), ← Nat.gcd_rec]
theorem tmod_bd (a b : Int) (hb : b ≠ 0) : (a.tmod b).natAbs < b.natAbs := by
  rw [Int.natAbs_tmod]
  exact Nat.mod_lt _ (by omega)
theorem spec_gcd_l0 : ∀ (n k : Nat) (a b : Int), b.natAbs ≤ n → n < k → a.natAbs ≤ 9000000000000000000 → b.natAbs ≤ 9000000000000000000 → spec_l11Gcd.l0 k a b = some (Int.gcd a b : Int) := by
  intro n
  induction n with
  | zero =>
    intro k a b hb hk ha hB
    obtain ⟨k, rfl⟩ : ∃ m, k = m + 1 := ⟨k - 1, by omega⟩
    obtain rfl : b = 0 := by omega
    simp only [spec_l11Gcd.l0]
    rw [if_pos trivial, l3Abs_eq (by omega) (by omega), Option.bind_some, Int.gcd_zero_right]
  | succ n ih =>
    intro k a b hb hk ha hB
    obtain ⟨k, rfl⟩ : ∃ m, k = m + 1 := ⟨k - 1, by omega⟩
    simp only [spec_l11Gcd.l0]
    by_cases h : b = 0
    · subst h
      rw [if_pos rfl, l3Abs_eq (by omega) (by omega), Option.bind_some, Int.gcd_zero_right]
    · have := tmod_bd a b h
      rw [if_neg h, ih k b (a.tmod b) (by omega) (by omega) (by omega) (by omega), gcd_step a b h]
theorem impl_gcd_l0 : ∀ (n k : Nat) (a b : Int), b.natAbs ≤ n → n < k → 0 ≤ a → 0 ≤ b → impl_gcd.l0 k a b = some (Int.gcd a b : Int) := by
  intro n
  induction n with
  | zero =>
    intro k a b hb hk ha hB
    obtain ⟨k, rfl⟩ : ∃ m, k = m + 1 := ⟨k - 1, by omega⟩
    obtain rfl : b = 0 := by omega
    simp only [impl_gcd.l0]
    rw [if_pos trivial, Int.gcd_zero_right]
    congr 1
    omega
  | succ n ih =>
    intro k a b hb hk ha hB
    obtain ⟨k, rfl⟩ : ∃ m, k = m + 1 := ⟨k - 1, by omega⟩
    simp only [impl_gcd.l0]
    by_cases h : b = 0
    · subst h
      rw [if_pos rfl, Int.gcd_zero_right]
      congr 1
      omega
    · have := tmod_bd a b h
      rw [if_neg h, ih k b (a.tmod b) (by omega) (by omega) hB (Int.tmod_nonneg _ ha), gcd_step a b h]
theorem spec_gcd (a b : Int) (k : Nat) (hk : b.natAbs < k) (ha : a.natAbs ≤ 9000000000000000000) (hb : b.natAbs ≤ 9000000000000000000) : spec_l11Gcd.f k a b = some (Int.gcd a b : Int) := by
  unfold spec_l11Gcd.f
  exact spec_gcd_l0 _ k a b (Nat.le_refl _) hk ha hb
theorem impl_gcd_eq (a b : Int) (k : Nat) (hk : b.natAbs < k) (ha : a.natAbs ≤ 9000000000000000000) (hb : b.natAbs ≤ 9000000000000000000) : impl_gcd.f k a b = some (Int.gcd a b : Int) := by
  unfold impl_gcd.f
  rw [size_eq (by omega) (by omega), size_eq (by omega) (by omega), Option.bind_some, Option.bind_some, impl_gcd_l0 _ k _ _ (Nat.le_refl _) (by omega) (by omega) (by omega)]
  rfl
end Go.Proofs.Ytkblceinidiidaa.L


namespace Go.Proofs.Ytkblceinidiidaa.L
open Go.RowKit Go.Proofs.Ytkblceinidiidaa.P Go.Proofs.Ytkblceinidiidaa.Help Go.Proofs.YtkblceinidiidaaW.PrintWords
set_option linter.unusedVariables false
set_option linter.unusedSimpArgs false

/-- A slope. -/
def isS (p q : Int) : Bool := decide ((-1000 ≤ p ∧ p ≤ 1000) ∧ (0 ≤ q ∧ q ≤ 1000) ∧ Int.gcd p q = 1 ∧ (q = 0 → p = 1))
theorem isS_true {p q : Int} (h : isS p q = true) : (-1000 ≤ p ∧ p ≤ 1000) ∧ (0 ≤ q ∧ q ≤ 1000) ∧ Int.gcd p q = 1 ∧ (q = 0 → p = 1) := of_decide_eq_true h
end Go.Proofs.Ytkblceinidiidaa.L

namespace Go.Proofs.Ytkblceinidiidaa.L
open Go.RowKit Go.Proofs.Ytkblceinidiidaa.P Go.Proofs.Ytkblceinidiidaa.Help Go.Proofs.YtkblceinidiidaaW.PrintWords
set_option linter.unusedVariables false
set_option linter.unusedSimpArgs false

theorem spec_isS (p q : Int) (k : Nat) (hk : 1000 < k) : spec_IsSlope.f k p q = some (isS p q) := by
  unfold spec_IsSlope.f isS
  rw [l1In_eq, l1In_eq, Option.bind_some, Option.bind_some]
  by_cases h1 : -1000 ≤ p ∧ p ≤ 1000
  · by_cases h2 : 0 ≤ q ∧ q ≤ 1000
    · rw [if_pos (decide_eq_true h1), if_pos (decide_eq_true h2), spec_gcd p q k (by omega) (by omega) (by omega), Option.bind_some]
      by_cases h3 : q = 0
      · subst h3
        rw [if_pos rfl]
        by_cases h4 : p = 1
        · subst h4; rw [if_pos rfl]; decide
        · rw [if_neg h4]; simp [h4]
      · rw [if_neg h3]
        congr 1
        rw [Bool.eq_iff_iff]
        simp [h1, h2, h3]
        omega
    · rw [if_pos (decide_eq_true h1), if_neg (by simpa using h2)]
      congr 1
      symm
      rw [decide_eq_false_iff_not]
      exact fun h => h2 h.2.1
  · rw [if_neg (by simpa using h1)]
    congr 1
    symm
    rw [decide_eq_false_iff_not]
    exact fun h => h1 h.1
theorem impl_isS (p q : Int) (k : Nat) (hk : 1000 < k) : impl_IsSlope.f k p q = some (isS p q) := by
  unfold impl_IsSlope.f isS
  rw [within_eq, within_eq, Option.bind_some, Option.bind_some]
  by_cases h1 : -1000 ≤ p ∧ p ≤ 1000
  · by_cases h2 : 0 ≤ q ∧ q ≤ 1000
    · rw [if_pos (decide_eq_true h1), if_pos (decide_eq_true h2), impl_gcd_eq p q k (by omega) (by omega) (by omega), Option.bind_some]
      by_cases h5 : Int.gcd p q = 1
      · rw [if_pos (by omega)]
        by_cases h3 : q = 0
        · rw [if_neg (by omega)]
          congr 1
          rw [Bool.eq_iff_iff]
          simp [h1, h2, h3]
          intro h4
          subst h4
          decide
        · rw [if_pos (by omega)]
          congr 1
          symm
          rw [decide_eq_true_iff]
          exact ⟨h1, h2, h5, fun h => absurd h h3⟩
      · rw [if_neg (by omega)]
        congr 1
        symm
        rw [decide_eq_false_iff_not]
        exact fun h => h5 h.2.2.1
    · rw [if_pos (decide_eq_true h1), if_neg (by simpa using h2)]
      congr 1
      symm
      rw [decide_eq_false_iff_not]
      exact fun h => h2 h.2.1
  · rw [if_neg (by simpa using h1)]
    congr 1
    symm
    rw [decide_eq_false_iff_not]
    exact fun h => h1 h.1
end Go.Proofs.Ytkblceinidiidaa.L

namespace Go.Proofs.Ytkblceinidiidaa.L
open Go.RowKit Go.Proofs.Ytkblceinidiidaa.P Go.Proofs.Ytkblceinidiidaa.Help Go.Proofs.YtkblceinidiidaaW.PrintWords Go.Proofs.YtkblceinidiidaaW.PrintMore
set_option linter.unusedVariables false
set_option linter.unusedSimpArgs false
/-- The distance of 1 / 0 from p / q, r = p mod q. -/
inductive Far : Nat → Nat → Nat → Prop
  | small {q r : Nat} : q ≤ 1 → Far q r q
  | step {q r a b : Nat} : 2 ≤ q → 1 ≤ r → r < q → Far r (q % r) a → Far (q - r) (q % (q - r)) b → Far q r (1 + min a b)
theorem Far.uniq {q r n : Nat} (h : Far q r n) : ∀ {m : Nat}, Far q r m → n = m := by
  induction h with
  | small hq =>
    intro m hm
    cases hm with
    | small _ => rfl
    | step h2 _ _ _ _ => omega
  | step h2 h1 hlt ha hb iha ihb =>
    intro m hm
    cases hm with
    | small hq => omega
    | step _ _ _ ha' hb' => rw [iha ha', ihb hb']
theorem Far.le {q r n : Nat} (h : Far q r n) : n ≤ q := by
  induction h with
  | small _ => exact Nat.le_refl _
  | step h2 h1 hlt ha hb iha ihb =>
    have := Nat.min_le_left
    omega
theorem Far.ex : ∀ (N q r : Nat), q ≤ N → (2 ≤ q → r < q ∧ Nat.gcd q r = 1) → ∃ n, Far q r n
  | 0, q, r, hN, h => ⟨q, .small (by omega)⟩
  | N + 1, q, r, hN, h => by
    by_cases hq : q ≤ 1
    · exact ⟨q, .small hq⟩
    · obtain ⟨hlt, hg⟩ := h (by omega)
      have hr : 1 ≤ r := by
        rcases Nat.eq_zero_or_pos r with h0 | h0
        · subst h0
          rw [Nat.gcd_zero_right] at hg
          omega
        · exact h0
      obtain ⟨a, ha⟩ := Far.ex N r (q % r) (by omega) (fun h2 => ⟨Nat.mod_lt _ (by omega), by
        rw [Nat.gcd_comm r, ← Nat.gcd_rec, Nat.gcd_comm]; exact hg⟩)
      obtain ⟨b, hb⟩ := Far.ex N (q - r) (q % (q - r)) (by omega) (fun h2 => ⟨Nat.mod_lt _ (by omega), by
        rw [Nat.gcd_comm (q - r), ← Nat.gcd_rec]
        have e : Nat.gcd (q - r) q = Nat.gcd q r := by
          have e1 : q = (q - r) + r := by omega
          calc Nat.gcd (q - r) q = Nat.gcd (q - r) ((q - r) + r) := by rw [← e1]
            _ = Nat.gcd (q - r) r := by rw [Nat.gcd_self_add_right]
            _ = Nat.gcd r (q - r) := Nat.gcd_comm _ _
            _ = Nat.gcd r q := Nat.gcd_sub_self_right (by omega)
            _ = Nat.gcd q r := Nat.gcd_comm _ _
        rw [e]; exact hg⟩)
      exact ⟨_, .step (by omega) hr hlt ha hb⟩
theorem tdiv_e {p q : Int} (hq : 0 < q) : (if Int.tmod p q < 0 then Int.tdiv p q - 1 else Int.tdiv p q) = p / q ∧ (if Int.tmod p q < 0 then Int.tmod p q + q else Int.tmod p q) = p % q := by
  have e1 := Int.tmod_add_mul_tdiv p q
  have e2 := Int.emod_add_mul_ediv p q
  have b1 := Int.emod_nonneg p (show q ≠ 0 by omega)
  have b2 := Int.emod_lt_of_pos p hq
  have b3 := Int.tmod_lt_of_pos p hq
  have b4 : -q < Int.tmod p q := by
    have := Int.lt_tmod_of_pos p hq
    omega
  by_cases h : Int.tmod p q < 0
  · rw [if_pos h, if_pos h]
    have hk : q * (Int.tdiv p q - 1 - p / q) = p % q - (Int.tmod p q + q) := by rw [Int.mul_sub, Int.mul_sub]; omega
    have h0 : Int.tdiv p q - 1 - p / q = 0 := by
      generalize Int.tdiv p q - 1 - p / q = z at hk
      rcases Int.lt_trichotomy z 0 with hz | hz | hz
      · have : q * z ≤ q * (-1) := Int.mul_le_mul_of_nonneg_left (by omega) (by omega)
        omega
      · exact hz
      · have : q * 1 ≤ q * z := Int.mul_le_mul_of_nonneg_left (by omega) (by omega)
        omega
    rw [h0] at hk
    omega
  · rw [if_neg h, if_neg h]
    have hk : q * (Int.tdiv p q - p / q) = p % q - Int.tmod p q := by rw [Int.mul_sub]; omega
    have h0 : Int.tdiv p q - p / q = 0 := by
      generalize Int.tdiv p q - p / q = z at hk
      rcases Int.lt_trichotomy z 0 with hz | hz | hz
      · have : q * z ≤ q * (-1) := Int.mul_le_mul_of_nonneg_left (by omega) (by omega)
        omega
      · exact hz
      · have : q * 1 ≤ q * z := Int.mul_le_mul_of_nonneg_left (by omega) (by omega)
        omega
    rw [h0] at hk
    omega
theorem div_bd {p q B : Int} (hq : 0 < q) (h0 : -B ≤ p) (h1 : p ≤ B) (hB : 0 ≤ B) : -B - 1 ≤ p / q ∧ p / q ≤ B := by
  have e2 := Int.emod_add_mul_ediv p q
  have b1 := Int.emod_nonneg p (show q ≠ 0 by omega)
  have b2 := Int.emod_lt_of_pos p hq
  generalize p / q = z at *
  rcases Int.lt_or_le z 0 with hz | hz
  · refine ⟨?_, by omega⟩
    rcases Int.lt_or_le z (-B - 1) with hl | hl
    · exfalso
      have : q * (z + 1) ≤ 1 * (z + 1) := by
        have := Int.mul_le_mul_of_nonpos_right (show (1 : Int) ≤ q by omega) (show z + 1 ≤ 0 by omega)
        omega
      rw [Int.mul_add] at this
      omega
    · exact hl
  · have : 1 * z ≤ q * z := Int.mul_le_mul_of_nonneg_right (by omega) hz
    omega
theorem down_f {p q : Int} (hq : 0 < q) (h0 : -1000000000000 ≤ p) (h1 : p ≤ 1000000000000) : spec_l14Down.f p q = some (p / q) := by
  obtain ⟨e, _⟩ := tdiv_e (p := p) hq
  obtain ⟨d1, d2⟩ := div_bd hq h0 h1 (by omega)
  unfold spec_l14Down.f
  rw [if_neg (by omega)]
  by_cases c : Int.tmod p q < 0
  · rw [if_pos c] at e
    rw [if_pos c, w_id (a := Int.tdiv p q) (by omega) (by omega), w_id (by omega) (by omega), e]
  · rw [if_neg c] at e
    rw [if_neg c, w_id (by omega) (by omega), e]
theorem low_f {p q : Int} (hq : 0 < q) (hq2 : q ≤ 10000000) (h0 : -1000000000000 ≤ p) (h1 : p ≤ 1000000000000) : wrap64 (p - wrap64 (p / q * q)) = p % q := by
  have e2 := Int.emod_add_mul_ediv p q
  have b1 := Int.emod_nonneg p (show q ≠ 0 by omega)
  have b2 := Int.emod_lt_of_pos p hq
  rw [Int.mul_comm] at e2
  rw [w_id (a := p / q * q) (by omega) (by omega), w_id (by omega) (by omega)]
  omega
theorem neg_mod {q r : Nat} (hr : 0 < r) : (-(q : Int)) % (r : Int) = ((q % r : Nat) : Int) ∨ (-(q : Int)) % (r : Int) = (r : Int) - ((q % r : Nat) : Int) := by
  have e1 := Int.emod_add_mul_ediv (-(q : Int)) (r : Int)
  have b1 := Int.emod_nonneg (-(q : Int)) (show (r : Int) ≠ 0 by omega)
  have b2 := Int.emod_lt_of_pos (-(q : Int)) (show (0 : Int) < (r : Int) by omega)
  have e2 := Int.emod_add_mul_ediv (q : Int) (r : Int)
  have b3 := Int.emod_nonneg (q : Int) (show (r : Int) ≠ 0 by omega)
  have b4 := Int.emod_lt_of_pos (q : Int) (show (0 : Int) < (r : Int) by omega)
  rw [Int.natCast_emod]
  have hk : (r : Int) * ((-(q : Int)) / (r : Int) + (q : Int) / (r : Int)) = -((-(q : Int)) % (r : Int) + (q : Int) % (r : Int)) := by rw [Int.mul_add]; omega
  generalize (-(q : Int)) / (r : Int) + (q : Int) / (r : Int) = z at hk
  generalize (-(q : Int)) % (r : Int) = u at *
  generalize (q : Int) % (r : Int) = v at *
  rcases Int.lt_or_le z (-1) with hz | hz
  · exfalso
    have : (r : Int) * z ≤ (r : Int) * (-2) := Int.mul_le_mul_of_nonneg_left (by omega) (by omega)
    omega
  · rcases Int.lt_or_le z 0 with h2 | h2
    · have : z = -1 := by omega
      subst this
      exact .inr (by omega)
    · have : (r : Int) * 0 ≤ (r : Int) * z := Int.mul_le_mul_of_nonneg_left h2 (by omega)
      exact .inl (by omega)
theorem spec_far {q r n : Nat} (h : Far q r n) : ∀ (p : Int) (k : Nat), q ≤ 10000000 → -1000000000000 ≤ p → p ≤ 1000000000000 → (q ≤ 1 ∨ p % (q : Int) = (r : Int) ∨ p % (q : Int) = (q : Int) - (r : Int)) → q < k → spec_l14Far.f k p (q : Int) = some (n : Int) := by
  induction h with
  | small hq =>
    intro p k hm _ _ _ hk
    obtain ⟨k, rfl⟩ : ∃ m, k = m + 1 := ⟨k - 1, by omega⟩
    rw [spec_l14Far.f, if_pos (by omega)]
  | @step q r a b h2 h1 hlt ha hb iha ihb =>
    intro p k hm p0 p1 hp hk
    obtain ⟨k, rfl⟩ : ∃ m, k = m + 1 := ⟨k - 1, by omega⟩
    have la := ha.le
    have lb := hb.le
    have hL := low_f (p := p) (q := (q : Int)) (by omega) (by omega) p0 p1
    rw [spec_l14Far.f, if_neg (by omega), down_f (by omega) p0 p1, Option.bind_some, hL, w_id (a := -(q : Int)) (by omega) (by omega)]
    have en := neg_mod (q := q) (r := r) h1
    have em := neg_mod (q := q) (r := q - r) (by omega)
    rcases hp with hp | hp | hp
    · omega
    · rw [hp, iha (-(q : Int)) k (by omega) (by omega) (by omega) (.inr en) (by omega), Option.bind_some, w_id (by omega) (by omega), show (q : Int) - (r : Int) = ((q - r : Nat) : Int) by omega,
        ihb (q : Int) k (by omega) (by omega) (by omega) (.inr (.inl (Int.natCast_emod _ _).symm)) (by omega), Option.bind_some]
      unfold spec_l1Min.f
      by_cases c : (a : Int) < (b : Int)
      · rw [if_pos c, Option.bind_some, w_id (by omega) (by omega), Nat.min_eq_left (by omega)]; simp
      · rw [if_neg c, Option.bind_some, w_id (by omega) (by omega), Nat.min_eq_right (by omega)]; simp
    · rw [hp, show (q : Int) - (r : Int) = ((q - r : Nat) : Int) by omega, ihb (-(q : Int)) k (by omega) (by omega) (by omega) (.inr em) (by omega), Option.bind_some, w_id (by omega) (by omega), show (q : Int) - ((q - r : Nat) : Int) = (r : Int) by omega,
        iha (q : Int) k (by omega) (by omega) (by omega) (.inr (.inl (Int.natCast_emod _ _).symm)) (by omega), Option.bind_some]
      unfold spec_l1Min.f
      by_cases c : (b : Int) < (a : Int)
      · rw [if_pos c, Option.bind_some, w_id (by omega) (by omega), Nat.min_eq_right (by omega)]; simp
      · rw [if_neg c, Option.bind_some, w_id (by omega) (by omega), Nat.min_eq_left (by omega)]; simp
end Go.Proofs.Ytkblceinidiidaa.L

namespace Go.Proofs.Ytkblceinidiidaa.L
open Go.RowKit Go.Proofs.Ytkblceinidiidaa.P Go.Proofs.Ytkblceinidiidaa.Help Go.Proofs.YtkblceinidiidaaW.PrintWords Go.Proofs.YtkblceinidiidaaW.PrintMore
set_option linter.unusedVariables false
set_option linter.unusedSimpArgs false
theorem pigeon : ∀ (N : Nat) (l : List Nat), l.Nodup → (∀ x ∈ l, x < N) → l.length ≤ N
  | 0, l, _, h => by
    cases l with
    | nil => simp
    | cons a l => exact absurd (h a (by simp)) (by omega)
  | N + 1, l, hd, h => by
    by_cases hN : N ∈ l
    · have h1 := pigeon N (l.erase N) (hd.erase N) (fun x hx => by
        have h2 := (hd.mem_erase_iff).1 hx
        have h3 := h x h2.2
        have h4 := h2.1
        omega)
      rw [List.length_erase_of_mem hN] at h1
      omega
    · have h1 := pigeon N l hd (fun x hx => by
        have h3 := h x hx
        have h4 : x ≠ N := fun e => hN (e ▸ hx)
        omega)
      omega
theorem wf_i {x : Int} (h0 : -9223372036854775808 ≤ x) (h1 : x ≤ 9223372036854775807) : (Lit.int .i64 x).wf = true := by
  have e1 : IntKind.i64.min = -9223372036854775808 := by decide
  have e2 : IntKind.i64.max = 9223372036854775807 := by decide
  simp only [Lit.wf, e1, e2, Bool.and_eq_true, decide_eq_true_eq]
  exact ⟨h0, h1⟩
/-- What the memory holds. -/
structure Kn (kn : List ((Int × Int) × Int)) : Prop where
  good : ∀ e ∈ kn, ∃ q r n : Nat, e = (((q : Int), (r : Int)), (n : Int)) ∧ Far q r n ∧ r < q ∧ q ≤ 4194303
  nodup : (kn.map Prod.fst).Nodup
theorem look_mem {kn : List ((Int × Int) × Int)} {key : Int × Int} {v : Int} (h : kn.lookup key = some v) : (key, v) ∈ kn := by
  induction kn with
  | nil => cases h
  | cons e t ih =>
    obtain ⟨k, u⟩ := e
    rw [List.lookup_cons] at h
    by_cases c : key == k
    · rw [c] at h
      obtain rfl := Option.some.inj h
      rw [eq_of_beq c]
      exact List.mem_cons_self
    · rw [Bool.eq_false_iff.mpr c] at h
      exact List.mem_cons_of_mem _ (ih h)
theorem look_none {kn : List ((Int × Int) × Int)} {key : Int × Int} (h : kn.lookup key = none) : key ∉ kn.map Prod.fst := by
  induction kn with
  | nil => simp
  | cons e t ih =>
    obtain ⟨k, u⟩ := e
    rw [List.lookup_cons] at h
    by_cases c : key == k
    · rw [c] at h; cases h
    · rw [Bool.eq_false_iff.mpr c] at h
      rw [List.map_cons]
      intro hm
      rcases List.mem_cons.1 hm with e1 | e1
      · exact c (beq_iff_eq.2 e1)
      · exact ih h e1
theorem Kn.short {kn : List ((Int × Int) × Int)} (h : Kn kn) : kn.length < maxLen := by
  have h1 := pigeon 35184372088832 ((kn.map Prod.fst).map fun k => k.1.toNat * 4194304 + k.2.toNat) (by
    refine List.pairwise_map.2 (List.Pairwise.imp_of_mem ?_ h.nodup)
    intro a b ha hb hab e
    obtain ⟨x, hx, rfl⟩ := List.mem_map.1 ha
    obtain ⟨y, hy, rfl⟩ := List.mem_map.1 hb
    obtain ⟨q, r, n, rfl, _, h2, h3⟩ := h.good x hx
    obtain ⟨q', r', n', rfl, _, h2', h3'⟩ := h.good y hy
    apply hab
    dsimp only at e ⊢
    rw [Int.toNat_natCast, Int.toNat_natCast, Int.toNat_natCast, Int.toNat_natCast] at e
    have e1 : q = q' := by omega
    have e2 : r = r' := by omega
    rw [e1, e2]) (by
    intro z hz
    obtain ⟨k, hk, rfl⟩ := List.mem_map.1 hz
    obtain ⟨x, hx, rfl⟩ := List.mem_map.1 hk
    obtain ⟨q, r, n, rfl, _, h2, h3⟩ := h.good x hx
    dsimp only
    rw [Int.toNat_natCast, Int.toNat_natCast]
    omega)
  rw [List.length_map, List.length_map] at h1
  unfold maxLen
  omega
theorem size_f {q0 : Int} {q : Nat} (h : q0.natAbs = q) (hq : q ≤ 4194303) : impl_size.f q0 = some (q : Int) := by
  unfold impl_size.f mx
  rw [w_id (by omega) (by omega)]
  split <;> (congr 1; omega)
theorem mod_f {p q : Int} (hq : 0 < q) (hq2 : q ≤ 4194303) : impl_mod.f p q = some (p % q) := by
  obtain ⟨_, e⟩ := tdiv_e (p := p) hq
  have b1 := Int.emod_nonneg p (show q ≠ 0 by omega)
  have b2 := Int.emod_lt_of_pos p hq
  unfold impl_mod.f
  rw [if_neg (by omega)]
  by_cases c : Int.tmod p q < 0
  · rw [if_pos c] at e
    rw [if_pos c, e, w_id (by omega) (by omega)]
  · rw [if_neg c] at e
    rw [if_neg c, e]
theorem impl_far {q r n : Nat} (h : Far q r n) : ∀ (p q0 : Int) (k : Nat) (kn : List ((Int × Int) × Int)), q0.natAbs = q → q ≤ 4194303 → (q ≤ 1 ∨ p % (q : Int) = (r : Int)) → Kn kn → q < k → ∃ kn', farey_distance.f k kn p q0 = some ((n : Int), kn') ∧ Kn kn' ∧ ∀ key ∈ kn'.map Prod.fst, key ∈ kn.map Prod.fst ∨ key.1 ≤ (q : Int) := by
  induction h with
  | @small q r hq =>
    intro p q0 k kn h0 hm _ hK hk
    obtain ⟨k, rfl⟩ : ∃ m, k = m + 1 := ⟨k - 1, by omega⟩
    refine ⟨kn, ?_, hK, fun key h => .inl h⟩
    rw [farey_distance.f, size_f h0 hm, Option.bind_some, if_pos (by omega)]
  | @step q r a b h2 h1 hlt ha hb iha ihb =>
    intro p q0 k kn h0 hm hp hK hk
    obtain ⟨k, rfl⟩ : ∃ m, k = m + 1 := ⟨k - 1, by omega⟩
    have la := ha.le
    have lb := hb.le
    have hp' : p % (q : Int) = (r : Int) := by omega
    have hF := Far.step h2 h1 hlt ha hb
    rw [farey_distance.f, size_f h0 hm, Option.bind_some, if_neg (by omega), mod_f (by omega) (by omega), Option.bind_some, hp', if_pos (wf_i (by omega) (by omega)), if_pos (wf_i (by omega) (by omega))]
    cases e : kn.lookup ((q : Int), (r : Int)) with
    | some v =>
      obtain ⟨q', r', n', e2, hF', _, _⟩ := hK.good _ (look_mem e)
      injection e2 with e3 e4
      injection e3 with e5 e6
      have e7 : q = q' := by omega
      have e8 : r = r' := by omega
      subst e7
      subst e8
      rw [e4, hF'.uniq hF]
      exact ⟨kn, rfl, hK, fun key h => .inl h⟩
    | none =>
      obtain ⟨kn1, f1, K1, M1⟩ := iha (q : Int) (r : Int) k kn (by omega) (by omega) (.inr (Int.natCast_emod _ _).symm) hK (by omega)
      obtain ⟨kn2, f2, K2, M2⟩ := ihb (q : Int) ((q : Int) - (r : Int)) k kn1 (by omega) (by omega) (.inr (by rw [show (((q - r : Nat) : Int)) = ((q - r : Nat) : Int) from rfl, ← Int.natCast_emod])) K1 (by omega)
      have hs := K2.short
      have hmn : wrap64 (1 + mn (a : Int) (b : Int)) = ((1 + min a b : Nat) : Int) := by
        unfold mn
        by_cases c : (b : Int) < (a : Int)
        · rw [if_pos c, w_id (by omega) (by omega), Nat.min_eq_right (by omega)]; simp
        · rw [if_neg c, w_id (by omega) (by omega), Nat.min_eq_left (by omega)]; simp
      dsimp only
      rw [f1, Option.bind_some, w_id (a := (q : Int) - (r : Int)) (by omega) (by omega)]
      dsimp only
      rw [f2, Option.bind_some]
      dsimp only
      rw [hmn, if_pos (wf_i (by omega) (by omega)), if_pos hs]
      refine ⟨_, rfl, ⟨fun x hx => ?_, ?_⟩, fun key hk2 => ?_⟩
      · rcases List.mem_cons.1 hx with rfl | hx
        · exact ⟨q, r, 1 + min a b, rfl, hF, hlt, hm⟩
        · exact K2.good x hx
      · rw [List.map_cons]
        refine List.nodup_cons.2 ⟨fun hc => ?_, K2.nodup⟩
        rcases M2 _ hc with hc | hc
        · rcases M1 _ hc with hc | hc
          · exact look_none e hc
          · dsimp only at hc
            omega
        · dsimp only at hc
          omega
      · rw [List.map_cons] at hk2
        rcases List.mem_cons.1 hk2 with rfl | hk2
        · exact .inr (Int.le_refl _)
        · rcases M2 _ hk2 with hc | hc
          · rcases M1 _ hc with hc | hc
            · exact .inl hc
            · exact .inr (by omega)
          · exact .inr (by omega)
end Go.Proofs.Ytkblceinidiidaa.L

namespace Go.Proofs.Ytkblceinidiidaa.L
open Go.RowKit Go.Proofs.Ytkblceinidiidaa.P Go.Proofs.Ytkblceinidiidaa.Help Go.Proofs.YtkblceinidiidaaW.PrintWords Go.Proofs.YtkblceinidiidaaW.PrintMore
set_option linter.unusedVariables false
set_option linter.unusedSimpArgs false
theorem bit_f (b : Bool) : spec_l1Bit.f b = some (if b = true then 1 else 0) := by
  cases b <;> rfl
theorem wn {z : Int} (h : z.natAbs ≤ 9000000) : wrap64 z = z := w_id (by omega) (by omega)
theorem euc : ∀ (N : Nat) (a b : Int), b.natAbs ≤ N → a.natAbs ≤ 1000 → b.natAbs ≤ 1000 → Int.gcd a b = 1 → ∀ k, N < k → ∃ x y : Int, impl_euclid.f k a b = some (x, y) ∧ spec_l14Bezout.f k a b = some (x, y) ∧ a * x + b * y = 1 ∧ (b = 0 → x = a ∧ y = 0) ∧ (b ≠ 0 → x.natAbs ≤ b.natAbs) ∧ y.natAbs ≤ max 1 a.natAbs := by
  intro N
  induction N with
  | zero =>
    intro a b hb ha hb2 hg k hk
    obtain ⟨k, rfl⟩ : ∃ m, k = m + 1 := ⟨k - 1, by omega⟩
    have h0 : b = 0 := by omega
    subst h0
    have ha1 : a.natAbs = 1 := by rw [Int.gcd_zero_right] at hg; exact hg
    refine ⟨a, 0, ?_, ?_, ?_, fun _ => ⟨rfl, rfl⟩, fun h => absurd rfl h, by simp⟩
    · rw [impl_euclid.f, if_pos rfl]
    · rw [spec_l14Bezout.f, if_pos rfl, bit_f, bit_f, Option.bind_some, Option.bind_some]
      rcases (show a = 1 ∨ a = -1 by omega) with rfl | rfl
      · show some (wrap64 (1 - 0), (0 : Int)) = some (1, 0)
        rw [w_id (by decide) (by decide)]
        rfl
      · show some (wrap64 (0 - 1), (0 : Int)) = some (-1, 0)
        rw [w_id (by decide) (by decide)]
        rfl
    · rcases (show a = 1 ∨ a = -1 by omega) with rfl | rfl
      · rfl
      · rfl
  | succ N ih =>
    intro a b hb ha hb2 hg k hk
    obtain ⟨k, rfl⟩ : ∃ m, k = m + 1 := ⟨k - 1, by omega⟩
    by_cases h0 : b = 0
    · obtain ⟨x, y, h⟩ := ih a b (by omega) ha hb2 hg (k + 1) (by omega)
      exact ⟨x, y, h⟩
    · have e1 := Int.tmod_add_mul_tdiv a b
      have hc : (Int.tmod a b).natAbs < b.natAbs := by rw [Int.natAbs_tmod]; exact Nat.mod_lt _ (by omega)
      have hab : (a - Int.tmod a b).natAbs ≤ 9000000 := by clear e1; omega
      have hcm : (Int.tmod a b).natAbs ≤ 9000000 := by clear e1; omega
      have hc2 : (Int.tmod a b).natAbs = a.natAbs % b.natAbs := Int.natAbs_tmod a b
      have hk2 : (Int.tdiv a b).natAbs = a.natAbs / b.natAbs := Int.natAbs_tdiv a b
      have hg2 : Int.gcd b (Int.tmod a b) = 1 := by
        unfold Int.gcd at hg ⊢
        rw [hc2, Nat.gcd_comm, ← Nat.gcd_rec, Nat.gcd_comm]
        exact hg
      have hdm := Nat.div_add_mod a.natAbs b.natAbs
      obtain ⟨x, y, f1, f2, f3, f4, f5, f6⟩ := ih b (Int.tmod a b) (by omega) hb2 (by omega) hg2 k (by omega)
      have hkb : (Int.tdiv a b).natAbs ≤ 1000 := by
        rw [hk2]
        exact Nat.le_trans (Nat.div_le_self _ _) ha
      have hky : (Int.tdiv a b * y).natAbs ≤ 1000000 := by
        rw [Int.natAbs_mul]
        have : y.natAbs ≤ 1000 := by omega
        exact Nat.le_trans (Nat.mul_le_mul hkb this) (by omega)
      have hkb2 : (Int.tdiv a b * b) = a - Int.tmod a b := by rw [Int.mul_comm]; omega
      have hx : x.natAbs ≤ 1000 := by
        by_cases c : Int.tmod a b = 0
        · rw [(f4 c).1]; omega
        · have := f5 c; omega
      have hy : (x - Int.tdiv a b * y).natAbs ≤ max 1 a.natAbs := by
        by_cases c : Int.tmod a b = 0
        · obtain ⟨g1, g2⟩ := f4 c
          have hb1 : b.natAbs = 1 := by rw [c, Int.gcd_zero_right] at hg2; exact hg2
          rw [g1, g2, Int.mul_zero]
          omega
        · have g1 := f5 c
          have g2 : (Int.tdiv a b * y).natAbs ≤ b.natAbs * (a.natAbs / b.natAbs) := by
            rw [Int.natAbs_mul, hk2, Nat.mul_comm]
            exact Nat.mul_le_mul_right _ (by omega)
          omega
      have hy9 : (x - Int.tdiv a b * y).natAbs ≤ 9000000 := Nat.le_trans hy (Nat.max_le.2 ⟨by decide, Nat.le_trans ha (by decide)⟩)
      have hyb : y.natAbs ≤ b.natAbs := by clear hdm hg2 hg e1 hkb2 hky hkb hk2 hc2 hab hcm f3; omega
      refine ⟨y, x - Int.tdiv a b * y, ?_, ?_, ?_, fun h => absurd h h0, fun _ => hyb, hy⟩
      · rw [impl_euclid.f, if_neg h0, f1, Option.bind_some, wn (z := Int.tdiv a b) (Nat.le_trans hkb (by decide)), wn (z := Int.tdiv a b * y) (Nat.le_trans hky (by decide)), wn hy9]
      · rw [spec_l14Bezout.f, if_neg h0, wn (z := Int.tdiv a b) (Nat.le_trans hkb (by decide)), hkb2, wn hab, Int.sub_sub_self, wn hcm, f2, Option.bind_some, wn (z := Int.tdiv a b * y) (Nat.le_trans hky (by decide)), wn hy9]
      · have e2 : a * y = (Int.tmod a b + b * Int.tdiv a b) * y := by rw [e1]
        rw [e2, Int.add_mul, Int.mul_sub, Int.mul_assoc]
        clear hdm hg2 hg hkb2 hky hkb hk2 hc2 hab hcm hy hy9 hyb e2 f4 f5 f6
        omega
end Go.Proofs.Ytkblceinidiidaa.L

namespace Go.Proofs.Ytkblceinidiidaa.Pure
open Go.RowKit Go.Proofs.Ytkblceinidiidaa.P Go.Proofs.Ytkblceinidiidaa.Help Go.Proofs.Ytkblceinidiidaa.L
theorem isS_ok {p q : Int} (h : isS p q = true) : p.natAbs ≤ 1000 ∧ q.natAbs ≤ 1000 ∧ Int.gcd p q = 1 := by
  unfold isS at h
  have h := of_decide_eq_true h
  exact ⟨by omega, by omega, h.2.2.1⟩
theorem gcd_one {a b c d x y : Int} (h : a * x + b * y = 1) (hg : Int.gcd c d = 1) : Int.gcd (a * d - b * c) (x * c + y * d) = 1 := by
  have h1 : (Int.gcd (a * d - b * c) (x * c + y * d) : Int) ∣ (a * d - b * c) := Int.gcd_dvd_left ..
  have h2 : (Int.gcd (a * d - b * c) (x * c + y * d) : Int) ∣ (x * c + y * d) := Int.gcd_dvd_right ..
  have e1 : a * (x * c + y * d) - y * (a * d - b * c) = c * (a * x + b * y) := by
    simp only [Int.mul_add, Int.mul_sub, Int.mul_comm, Int.mul_left_comm]
    omega
  have e2 : b * (x * c + y * d) + x * (a * d - b * c) = d * (a * x + b * y) := by
    simp only [Int.mul_add, Int.mul_sub, Int.mul_comm, Int.mul_left_comm]
    omega
  rw [h, Int.mul_one] at e1 e2
  have hc := Int.dvd_sub (Int.dvd_trans h2 (Int.dvd_mul_left a (x * c + y * d))) (Int.dvd_trans h1 (Int.dvd_mul_left y (a * d - b * c)))
  have hd := Int.dvd_add (Int.dvd_trans h2 (Int.dvd_mul_left b (x * c + y * d))) (Int.dvd_trans h1 (Int.dvd_mul_left x (a * d - b * c)))
  rw [e1] at hc
  rw [e2] at hd
  have := Int.dvd_coe_gcd hc hd
  rw [hg] at this
  have h3 := Int.natAbs_dvd_natAbs.2 this
  simpa using h3
theorem neg_modI {p : Int} {r : Nat} (hr : 0 < r) : (-p) % (r : Int) = p % (r : Int) ∨ (-p) % (r : Int) = (r : Int) - p % (r : Int) := by
  have e1 := Int.emod_add_mul_ediv (-p) (r : Int)
  have b1 := Int.emod_nonneg (-p) (show (r : Int) ≠ 0 by omega)
  have b2 := Int.emod_lt_of_pos (-p) (show (0 : Int) < (r : Int) by omega)
  have e2 := Int.emod_add_mul_ediv p (r : Int)
  have b3 := Int.emod_nonneg p (show (r : Int) ≠ 0 by omega)
  have b4 := Int.emod_lt_of_pos p (show (0 : Int) < (r : Int) by omega)
  have hk : (r : Int) * ((-p) / (r : Int) + p / (r : Int)) = -((-p) % (r : Int) + p % (r : Int)) := by rw [Int.mul_add]; omega
  generalize (-p) / (r : Int) + p / (r : Int) = z at hk
  generalize (-p) % (r : Int) = u at *
  generalize p % (r : Int) = v at *
  rcases Int.lt_or_le z (-1) with hz | hz
  · exfalso
    have : (r : Int) * z ≤ (r : Int) * (-2) := Int.mul_le_mul_of_nonneg_left (by omega) (by omega)
    omega
  · rcases Int.lt_or_le z 0 with h2 | h2
    · have : z = -1 := by omega
      subst this
      exact .inr (by omega)
    · have : (r : Int) * 0 ≤ (r : Int) * z := Int.mul_le_mul_of_nonneg_left h2 (by omega)
      exact .inl (by omega)
theorem far_of {p q : Int} (hg : Int.gcd q p = 1) : ∃ n, Far q.natAbs (p % (q.natAbs : Int)).toNat n := by
  refine Far.ex q.natAbs q.natAbs _ (Nat.le_refl _) (fun h2 => ?_)
  have b3 := Int.emod_nonneg p (show (q.natAbs : Int) ≠ 0 by omega)
  have b4 := Int.emod_lt_of_pos p (show (0 : Int) < (q.natAbs : Int) by omega)
  refine ⟨by omega, ?_⟩
  have h3 : (Nat.gcd q.natAbs (p % (q.natAbs : Int)).toNat : Int) ∣ (q.natAbs : Int) := Int.natCast_dvd_natCast.2 (Nat.gcd_dvd_left ..)
  have h4 : (Nat.gcd q.natAbs (p % (q.natAbs : Int)).toNat : Int) ∣ (p % (q.natAbs : Int)) := by
    have := Int.natCast_dvd_natCast.2 (Nat.gcd_dvd_right q.natAbs (p % (q.natAbs : Int)).toNat)
    rwa [Int.toNat_of_nonneg b3] at this
  have h5 : (Nat.gcd q.natAbs (p % (q.natAbs : Int)).toNat : Int) ∣ p := by
    have := Int.dvd_add h4 (Int.dvd_trans h3 (Int.dvd_mul_right (q.natAbs : Int) (p / (q.natAbs : Int))))
    rwa [Int.emod_add_mul_ediv] at this
  have h6 := Int.dvd_coe_gcd (Int.dvd_natAbs.1 h3) h5
  rw [hg] at h6
  have h7 := Int.natAbs_dvd_natAbs.2 h6
  simpa using h7
theorem m6 {x y : Int} (h1 : x.natAbs ≤ 1000) (h2 : y.natAbs ≤ 1000) : (x * y).natAbs ≤ 1000000 := by
  rw [Int.natAbs_mul]
  exact Nat.le_trans (Nat.mul_le_mul h1 h2) (by decide)
theorem both {aP aQ bP bQ : Int} (h1 : isS aP aQ = true) (h2 : isS bP bQ = true) : ∃ d, spec_SlopeDistance.j0 10000001 false aP aQ bP bQ = some d ∧ impl_between.f 10000001 aP aQ bP bQ = some d := by
  obtain ⟨i1, i2, i3⟩ := isS_ok h1
  obtain ⟨j1, j2, j3⟩ := isS_ok h2
  obtain ⟨x, y, f1, f2, f3, f4, f5, f6⟩ := euc 1000 aP aQ i2 i1 i2 i3 10000000 (by decide)
  have f1' := impl_euclid.mono aP aQ 10000000 _ f1
  have hx : x.natAbs ≤ 1000 := by
    by_cases c : aQ = 0
    · rw [(f4 c).1]; exact i1
    · exact Nat.le_trans (f5 c) i2
  have hy : y.natAbs ≤ 1000 := Nat.le_trans f6 (Nat.max_le.2 ⟨by decide, i1⟩)
  have hg := gcd_one f3 j3
  have p1 := m6 hx j1
  have p2 := m6 hy j2
  have p3 := m6 i1 j2
  have p4 := m6 i2 j1
  clear f1 f3 f4 f5 f6 h1 h2 i3 j3
  generalize hA : x * bP = A at *
  generalize hB : y * bQ = B at *
  generalize hC : aP * bQ = C at *
  generalize hD : aQ * bP = D at *
  obtain ⟨n, hn⟩ := far_of hg
  have hq : (C - D).natAbs ≤ 2000000 := by omega
  obtain ⟨kn', g1, _⟩ := impl_far hn (A + B) (C - D) 10000001 [] rfl (by omega) (by
    by_cases c : (C - D).natAbs ≤ 1
    · exact .inl c
    · exact .inr (Int.toNat_of_nonneg (Int.emod_nonneg _ (by omega))).symm) ⟨fun _ h => (by cases h), List.nodup_nil⟩ (by omega)
  refine ⟨(n : Int), ?_, ?_⟩
  · simp only [spec_SlopeDistance.j0]
    rw [if_neg (by decide), f2, Option.bind_some]
    dsimp only
    rw [hA, hB, hC, hD, wn (z := A) (by omega), wn (z := B) (by omega), wn (z := C) (by omega), wn (z := D) (by omega), wn (z := C - D) (by omega), wn (z := A + B) (by omega)]
    by_cases c : C - D < 0
    · rw [if_pos c, wn (z := -(A + B)) (by omega), wn (z := -(C - D)) (by omega)]
      have e := spec_far hn (-(A + B)) 10000000 (by omega) (by omega) (by omega) (by
        rcases neg_modI (p := A + B) (r := (C - D).natAbs) (by omega) with e | e
        · exact .inr (.inl (e.trans (Int.toNat_of_nonneg (Int.emod_nonneg _ (by omega))).symm))
        · exact .inr (.inr (e.trans (congrArg (fun z => ((C - D).natAbs : Int) - z) (Int.toNat_of_nonneg (Int.emod_nonneg _ (by omega))).symm)))) (by omega)
      rw [show (((C - D).natAbs : Nat) : Int) = -(C - D) by omega] at e
      rw [e]
      rfl
    · rw [if_neg c]
      have e := spec_far hn (A + B) 10000000 (by omega) (by omega) (by omega) (by
        by_cases c : (C - D).natAbs ≤ 1
        · exact .inl c
        · exact .inr (.inl (Int.toNat_of_nonneg (Int.emod_nonneg _ (by omega))).symm)) (by omega)
      rw [show (((C - D).natAbs : Nat) : Int) = C - D by omega] at e
      rw [e]
      rfl
  · unfold impl_between.f
    rw [f1', Option.bind_some]
    dsimp only
    rw [hA, hB, hC, hD, wn (z := A) (by omega), wn (z := B) (by omega), wn (z := C) (by omega), wn (z := D) (by omega), wn (z := C - D) (by omega), wn (z := A + B) (by omega), g1]
    rfl
theorem FnExactSlopeDistance : ∀ (a0_0 a0_1 : Int) (a1_0 a1_1 : Int), I64 a0_0 → I64 a0_1 → I64 a1_0 → I64 a1_1 → ∃ k, laws_FnExactSlopeDistance.f k a0_0 a0_1 a1_0 a1_1 = some true := by
  intro aP aQ bP bQ _ _ _ _
  refine ⟨10000001, ?_⟩
  unfold laws_FnExactSlopeDistance.f laws_toSlope.f
  simp only [Option.bind_some]
  unfold spec_SlopeDistance.f impl_SlopeDistance.f
  rw [spec_isS aP aQ _ (by decide), impl_isS aP aQ _ (by decide), Option.bind_some, Option.bind_some]
  by_cases h1 : isS aP aQ = true
  · rw [if_pos h1, if_pos h1, spec_isS bP bQ _ (by decide), impl_isS bP bQ _ (by decide), Option.bind_some, Option.bind_some]
    by_cases h2 : isS bP bQ = true
    · obtain ⟨d, e1, e2⟩ := both h1 h2
      rw [if_pos h2, h2]
      show Option.bind (spec_SlopeDistance.j0 10000001 false aP aQ bP bQ) _ = _
      rw [e1, Option.bind_some, e2, Option.bind_some, Option.bind_some, if_pos rfl]
    · rw [if_neg h2, Bool.eq_false_iff.mpr h2]
      rfl
  · rw [if_neg h1, if_neg h1]
    rfl
end Go.Proofs.Ytkblceinidiidaa.Pure
