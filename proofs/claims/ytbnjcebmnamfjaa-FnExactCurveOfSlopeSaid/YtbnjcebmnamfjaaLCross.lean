/- How often two slopes cross, as the program and the reference compute it; no condition but the number of rounds. -/
import Derived.Test.YtbnjcebmnamfjaaPx4
import Derived.Test.YtbnjcebmnamfjaaPx18
import Derived.Test.YtbnjcebmnamfjaaHelp
import Derived.Test.YtbnjcebmnamfjaaLIsS
namespace Go.Proofs.Ytbnjcebmnamfjaa.L
open Go.RowKit Go.Proofs.Ytbnjcebmnamfjaa.P Go.Proofs.Ytbnjcebmnamfjaa.Help Go.Proofs.YtbnjcebmnamfjaaW.PrintWords
set_option linter.unusedVariables false
set_option linter.unusedSimpArgs false

/-- How often two slopes cross. -/
def crossR (p q r s : Int) : Int := if isS p q = true ∧ isS r s = true then ((p * s - q * r).natAbs : Int) else -1
theorem cross_w {p q r s : Int} (hp : -1000 ≤ p ∧ p ≤ 1000) (hq : -1000 ≤ q ∧ q ≤ 1000) (hr : -1000 ≤ r ∧ r ≤ 1000) (hs : -1000 ≤ s ∧ s ≤ 1000) : wrap64 ((wrap64 (p * s)) - (wrap64 (q * r))) = p * s - q * r ∧ -2000000 ≤ p * s - q * r ∧ p * s - q * r ≤ 2000000 := by
  have h1 := mulb hp.1 hp.2 hs.1 hs.2
  have h2 := mulb hq.1 hq.2 hr.1 hr.2
  rw [w_id (a := p * s) (by omega) (by omega), w_id (a := q * r) (by omega) (by omega), w_id (by omega) (by omega)]
  omega
theorem spec_cross (p q r s : Int) (k : Nat) (hk : 1000 < k) : spec_CrossNumber.f k p q r s = some (crossR p q r s) := by
  unfold spec_CrossNumber.f crossR
  rw [spec_isS _ _ _ hk, spec_isS _ _ _ hk, Option.bind_some, Option.bind_some]
  by_cases h : isS p q = true
  · rw [if_pos h]
    by_cases h2 : isS r s = true
    · obtain ⟨hp, hq, _⟩ := isS_true h
      obtain ⟨hr, hs, _⟩ := isS_true h2
      obtain ⟨e, e1, e2⟩ := cross_w hp (by omega) hr (show -1000 ≤ s ∧ s ≤ 1000 by omega) (q := q)
      rw [if_pos h2, if_pos ⟨h, h2⟩, e, l3Abs_eq (by omega) (by omega)]
      rfl
    · rw [if_neg h2, if_neg (fun h => h2 h.2)]
  · rw [if_neg h, if_neg (fun h' => h h'.1)]
theorem impl_cross_eq {p q r s : Int} (hp : -1000 ≤ p ∧ p ≤ 1000) (hq : -1000 ≤ q ∧ q ≤ 1000) (hr : -1000 ≤ r ∧ r ≤ 1000) (hs : -1000 ≤ s ∧ s ≤ 1000) : impl_cross.f p q r s = some ((p * s - q * r).natAbs : Int) := by
  unfold impl_cross.f
  obtain ⟨e, e1, e2⟩ := cross_w hp hq hr hs
  rw [e, size_eq (by omega) (by omega)]
  rfl
theorem impl_crossN (p q r s : Int) (k : Nat) (hk : 1000 < k) : impl_CrossNumber.f k p q r s = some (crossR p q r s) := by
  unfold impl_CrossNumber.f crossR
  rw [impl_isS _ _ _ hk, impl_isS _ _ _ hk, Option.bind_some, Option.bind_some]
  by_cases h : isS p q = true
  · rw [if_pos h]
    by_cases h2 : isS r s = true
    · obtain ⟨hp, hq, _⟩ := isS_true h
      obtain ⟨hr, hs, _⟩ := isS_true h2
      rw [if_pos h2, if_pos ⟨h, h2⟩, impl_cross_eq hp (by omega) hr (by omega)]
      rfl
    · rw [if_neg h2, if_neg (fun h => h2 h.2)]
  · rw [if_neg h, if_neg (fun h' => h h'.1)]
theorem crossR_is {p q r s : Int} (h : crossR p q r s = 1) : isS p q = true ∧ isS r s = true := by
  unfold crossR at h
  split at h
  · assumption
  · omega
end Go.Proofs.Ytbnjcebmnamfjaa.L
