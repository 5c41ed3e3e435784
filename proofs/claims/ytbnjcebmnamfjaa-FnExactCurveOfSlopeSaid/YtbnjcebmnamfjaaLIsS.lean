/- What the program's and the reference's IsSlope compute; no condition but the number of rounds. -/
import Derived.Test.YtbnjcebmnamfjaaPx2
import Derived.Test.YtbnjcebmnamfjaaHelp
import Derived.Test.YtbnjcebmnamfjaaLGcd
namespace Go.Proofs.Ytbnjcebmnamfjaa.L
open Go.RowKit Go.Proofs.Ytbnjcebmnamfjaa.P Go.Proofs.Ytbnjcebmnamfjaa.Help Go.Proofs.YtbnjcebmnamfjaaW.PrintWords
set_option linter.unusedVariables false
set_option linter.unusedSimpArgs false

/-- A slope. -/
def isS (p q : Int) : Bool := decide ((-1000 ≤ p ∧ p ≤ 1000) ∧ (0 ≤ q ∧ q ≤ 1000) ∧ Int.gcd p q = 1 ∧ (q = 0 → p = 1))
theorem isS_true {p q : Int} (h : isS p q = true) : (-1000 ≤ p ∧ p ≤ 1000) ∧ (0 ≤ q ∧ q ≤ 1000) ∧ Int.gcd p q = 1 ∧ (q = 0 → p = 1) := of_decide_eq_true h
theorem spec_isS (p q : Int) (k : Nat) (hk : 1000 < k) : spec_IsSlope.f k p q = some (isS p q) := by
  unfold spec_IsSlope.f isS
  rw [l1In_eq, l1In_eq, Option.bind_some, Option.bind_some]
  by_cases h1 : -1000 ≤ p ∧ p ≤ 1000
  · by_cases h2 : 0 ≤ q ∧ q ≤ 1000
    · rw [if_pos (decide_eq_true h1), if_pos (decide_eq_true h2), spec_gcd p q k (by omega) (by omega) (by omega), Option.bind_some]
      by_cases h3 : q = 0
      · subst h3
        rw [if_pos rfl]
        by_cases h4 : p = 1
        · subst h4; rw [if_pos rfl]; decide
        · rw [if_neg h4]; simp [h4]
      · rw [if_neg h3]
        congr 1
        rw [Bool.eq_iff_iff]
        simp [h1, h2, h3]
        omega
    · rw [if_pos (decide_eq_true h1), if_neg (by simpa using h2)]
      congr 1
      symm
      rw [decide_eq_false_iff_not]
      exact fun h => h2 h.2.1
  · rw [if_neg (by simpa using h1)]
    congr 1
    symm
    rw [decide_eq_false_iff_not]
    exact fun h => h1 h.1
theorem impl_isS (p q : Int) (k : Nat) (hk : 1000 < k) : impl_IsSlope.f k p q = some (isS p q) := by
  unfold impl_IsSlope.f isS
  rw [within_eq, within_eq, Option.bind_some, Option.bind_some]
  by_cases h1 : -1000 ≤ p ∧ p ≤ 1000
  · by_cases h2 : 0 ≤ q ∧ q ≤ 1000
    · rw [if_pos (decide_eq_true h1), if_pos (decide_eq_true h2), impl_gcd_eq p q k (by omega) (by omega) (by omega), Option.bind_some]
      by_cases h5 : Int.gcd p q = 1
      · rw [if_pos (by omega)]
        by_cases h3 : q = 0
        · rw [if_neg (by omega)]
          congr 1
          rw [Bool.eq_iff_iff]
          simp [h1, h2, h3]
          intro h4
          subst h4
          decide
        · rw [if_pos (by omega)]
          congr 1
          symm
          rw [decide_eq_true_iff]
          exact ⟨h1, h2, h5, fun h => absurd h h3⟩
      · rw [if_neg (by omega)]
        congr 1
        symm
        rw [decide_eq_false_iff_not]
        exact fun h => h5 h.2.2.1
    · rw [if_pos (decide_eq_true h1), if_neg (by simpa using h2)]
      congr 1
      symm
      rw [decide_eq_false_iff_not]
      exact fun h => h2 h.2.1
  · rw [if_neg (by simpa using h1)]
    congr 1
    symm
    rw [decide_eq_false_iff_not]
    exact fun h => h1 h.1
end Go.Proofs.Ytbnjcebmnamfjaa.L
