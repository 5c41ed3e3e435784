/- What the program's and the reference's greatest common divisor computes; no condition but the number of rounds. -/
import Derived.Test.YtbnjcebmnamfjaaPx2
import Derived.Test.YtbnjcebmnamfjaaHelp
import Derived.Test.YtbnjcebmnamfjaaLIn
namespace Go.Proofs.Ytbnjcebmnamfjaa.L
open Go.RowKit Go.Proofs.Ytbnjcebmnamfjaa.P Go.Proofs.Ytbnjcebmnamfjaa.Help Go.Proofs.YtbnjcebmnamfjaaW.PrintWords
set_option linter.unusedVariables false
set_option linter.unusedSimpArgs false

theorem l3Abs_eq {a : Int} (h0 : -9223372036854775807 ≤ a) (h1 : a ≤ 9223372036854775807) : spec_l3Abs.f a = some (a.natAbs : Int) := by
  unfold spec_l3Abs.f spec_l1Max.f
  rw [w_id (by omega) (by omega)]
  by_cases h : a > -a
  · rw [if_pos h]; simp only [Option.bind_some]; congr 1; omega
  · rw [if_neg h]; simp only [Option.bind_some]; congr 1; omega
theorem size_eq {a : Int} (h0 : -9223372036854775807 ≤ a) (h1 : a ≤ 9223372036854775807) : impl_size.f a = some (a.natAbs : Int) := by
  unfold impl_size.f
  rw [w_id (by omega) (by omega)]
  congr 1
  unfold mx
  split <;> omega
theorem gcd_step (a b : Int) (hb : b ≠ 0) : Int.gcd b (a.tmod b) = Int.gcd a b := by
  show Nat.gcd b.natAbs (a.tmod b).natAbs = Nat.gcd a.natAbs b.natAbs
  rw [Int.natAbs_tmod, Nat.gcd_comm a.natAbs b.natAbs, Nat.gcd_comm b.natAbs (a.natAbs % b.natAbs), ← Nat.gcd_rec]
theorem tmod_bd (a b : Int) (hb : b ≠ 0) : (a.tmod b).natAbs < b.natAbs := by
  rw [Int.natAbs_tmod]
  exact Nat.mod_lt _ (by omega)
theorem spec_gcd_l0 : ∀ (n k : Nat) (a b : Int), b.natAbs ≤ n → n < k → a.natAbs ≤ 9000000000000000000 → b.natAbs ≤ 9000000000000000000 → spec_l11Gcd.l0 k a b = some (Int.gcd a b : Int) := by
  intro n
  induction n with
  | zero =>
    intro k a b hb hk ha hB
    obtain ⟨k, rfl⟩ : ∃ m, k = m + 1 := ⟨k - 1, by omega⟩
    obtain rfl : b = 0 := by omega
    simp only [spec_l11Gcd.l0]
    rw [if_pos trivial, l3Abs_eq (by omega) (by omega), Option.bind_some, Int.gcd_zero_right]
  | succ n ih =>
    intro k a b hb hk ha hB
    obtain ⟨k, rfl⟩ : ∃ m, k = m + 1 := ⟨k - 1, by omega⟩
    simp only [spec_l11Gcd.l0]
    by_cases h : b = 0
    · subst h
      rw [if_pos rfl, l3Abs_eq (by omega) (by omega), Option.bind_some, Int.gcd_zero_right]
    · have := tmod_bd a b h
      rw [if_neg h, ih k b (a.tmod b) (by omega) (by omega) (by omega) (by omega), gcd_step a b h]
theorem impl_gcd_l0 : ∀ (n k : Nat) (a b : Int), b.natAbs ≤ n → n < k → 0 ≤ a → 0 ≤ b → impl_gcd.l0 k a b = some (Int.gcd a b : Int) := by
  intro n
  induction n with
  | zero =>
    intro k a b hb hk ha hB
    obtain ⟨k, rfl⟩ : ∃ m, k = m + 1 := ⟨k - 1, by omega⟩
    obtain rfl : b = 0 := by omega
    simp only [impl_gcd.l0]
    rw [if_pos trivial, Int.gcd_zero_right]
    congr 1
    omega
  | succ n ih =>
    intro k a b hb hk ha hB
    obtain ⟨k, rfl⟩ : ∃ m, k = m + 1 := ⟨k - 1, by omega⟩
    simp only [impl_gcd.l0]
    by_cases h : b = 0
    · subst h
      rw [if_pos rfl, Int.gcd_zero_right]
      congr 1
      omega
    · have := tmod_bd a b h
      rw [if_neg h, ih k b (a.tmod b) (by omega) (by omega) hB (Int.tmod_nonneg _ ha), gcd_step a b h]
theorem spec_gcd (a b : Int) (k : Nat) (hk : b.natAbs < k) (ha : a.natAbs ≤ 9000000000000000000) (hb : b.natAbs ≤ 9000000000000000000) : spec_l11Gcd.f k a b = some (Int.gcd a b : Int) := by
  unfold spec_l11Gcd.f
  exact spec_gcd_l0 _ k a b (Nat.le_refl _) hk ha hb
theorem impl_gcd_eq (a b : Int) (k : Nat) (hk : b.natAbs < k) (ha : a.natAbs ≤ 9000000000000000000) (hb : b.natAbs ≤ 9000000000000000000) : impl_gcd.f k a b = some (Int.gcd a b : Int) := by
  unfold impl_gcd.f
  rw [size_eq (by omega) (by omega), size_eq (by omega) (by omega), Option.bind_some, Option.bind_some, impl_gcd_l0 _ k _ _ (Nat.le_refl _) (by omega) (by omega) (by omega)]
  rfl
end Go.Proofs.Ytbnjcebmnamfjaa.L
