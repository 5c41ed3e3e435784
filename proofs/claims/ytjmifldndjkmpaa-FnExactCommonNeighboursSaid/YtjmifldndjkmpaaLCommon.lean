/- What the program's and the reference's CommonNeighbours compute; no condition but the number of rounds. -/
import Derived.Test.YtjmifldndjkmpaaPx0
import Derived.Test.YtjmifldndjkmpaaPx42
import Derived.Test.YtjmifldndjkmpaaHelp
import Derived.Test.YtjmifldndjkmpaaLCross
import Derived.Test.YtjmifldndjkmpaaLSlopeOf
namespace Go.Proofs.Ytjmifldndjkmpaa.L
open Go.RowKit Go.Proofs.Ytjmifldndjkmpaa.P Go.Proofs.Ytjmifldndjkmpaa.Help Go.Proofs.YtjmifldndjkmpaaW.PrintWords
set_option linter.unusedVariables false
set_option linter.unusedSimpArgs false

def commonR (p q r s : Int) : List S38 :=
  if crossR p q r s = 1 then (if (slopeR (p + r) (q + s)).2.2 = true ∧ (slopeR (p - r) (q - s)).2.2 = true then [⟨(slopeR (p + r) (q + s)).1, (slopeR (p + r) (q + s)).2.1⟩, ⟨(slopeR (p - r) (q - s)).1, (slopeR (p - r) (q - s)).2.1⟩] else []) else []
theorem commonR_len (p q r s : Int) : (commonR p q r s).length ≤ 2 := by
  unfold commonR
  repeat' split
  all_goals simp
theorem spec_common (p q r s : Int) (k : Nat) (hk : 1001 < k) : spec_CommonNeighbours.f k p q r s = some (commonR p q r s) := by
  unfold spec_CommonNeighbours.f commonR
  rw [spec_cross _ _ _ _ _ (by omega), Option.bind_some]
  by_cases h : crossR p q r s = 1
  · obtain ⟨h1, h2⟩ := crossR_is h
    obtain ⟨hp, hq, _⟩ := isS_true h1
    obtain ⟨hr, hs, _⟩ := isS_true h2
    rw [if_pos h, if_pos h, w_id (a := p + r) (by omega) (by omega), w_id (a := q + s) (by omega) (by omega), w_id (a := p - r) (by omega) (by omega), w_id (a := q - s) (by omega) (by omega), spec_slope _ _ _ hk, spec_slope _ _ _ hk, Option.bind_some, Option.bind_some]
    by_cases h3 : (slopeR (p + r) (q + s)).2.2 = true
    · by_cases h4 : (slopeR (p - r) (q - s)).2.2 = true
      · rw [if_pos h3, if_pos h4, if_pos ⟨h3, h4⟩]
      · rw [if_pos h3, if_neg h4, if_neg (fun h => h4 h.2)]
    · rw [if_neg h3, if_neg (fun h => h3 h.1)]
  · rw [if_neg h, if_neg h]
theorem impl_common (p q r s : Int) (k : Nat) (hk : 1001 < k) : impl_CommonNeighbours.f k p q r s = some (commonR p q r s) := by
  unfold impl_CommonNeighbours.f commonR
  rw [impl_crossN _ _ _ _ _ (by omega), Option.bind_some]
  by_cases h : crossR p q r s = 1
  · obtain ⟨h1, h2⟩ := crossR_is h
    obtain ⟨hp, hq, _⟩ := isS_true h1
    obtain ⟨hr, hs, _⟩ := isS_true h2
    rw [if_pos h, if_pos h, w_id (a := p + r) (by omega) (by omega), w_id (a := q + s) (by omega) (by omega), w_id (a := p - r) (by omega) (by omega), w_id (a := q - s) (by omega) (by omega), impl_slope _ _ _ (by omega), impl_slope _ _ _ (by omega), Option.bind_some, Option.bind_some]
    by_cases h3 : (slopeR (p + r) (q + s)).2.2 = true
    · by_cases h4 : (slopeR (p - r) (q - s)).2.2 = true
      · rw [if_pos h3, if_pos h4, if_pos ⟨h3, h4⟩]
      · rw [if_pos h3, if_neg h4, if_neg (fun h => h4 h.2)]
    · rw [if_neg h3, if_neg (fun h => h3 h.1)]
  · rw [if_neg h, if_neg h]
end Go.Proofs.Ytjmifldndjkmpaa.L
