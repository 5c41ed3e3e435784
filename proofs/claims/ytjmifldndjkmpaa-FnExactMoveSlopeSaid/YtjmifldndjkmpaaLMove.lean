/- What the program's and the reference's MoveSlope compute; no condition but the number of rounds. -/
import Derived.Test.YtjmifldndjkmpaaPx35
import Derived.Test.YtjmifldndjkmpaaHelp
import Derived.Test.YtjmifldndjkmpaaLTimes
import Derived.Test.YtjmifldndjkmpaaLIsS
import Derived.Test.YtjmifldndjkmpaaLSlopeOf
namespace Go.Proofs.Ytjmifldndjkmpaa.L
open Go.RowKit Go.Proofs.Ytjmifldndjkmpaa.P Go.Proofs.Ytjmifldndjkmpaa.Help Go.Proofs.YtjmifldndjkmpaaW.PrintWords
set_option linter.unusedVariables false
set_option linter.unusedSimpArgs false

def moveR (a b c d p q : Int) : Int × Int × Bool := if isM a b c d = true ∧ isS p q = true then slopeR (a * p + b * q) (c * p + d * q) else (0, 0, false)
theorem spec_move (a b c d p q : Int) (k : Nat) (hk : 1001 < k) : spec_MoveSlope.f k a b c d p q = some (moveR a b c d p q) := by
  unfold spec_MoveSlope.f moveR
  rw [spec_isM _ _ _ _ _ (by omega), spec_isS _ _ _ (by omega), Option.bind_some, Option.bind_some]
  by_cases h : isM a b c d = true
  · rw [if_pos h]
    by_cases h2 : isS p q = true
    · obtain ⟨ha, hb, hc, hd, _⟩ := isM_true h
      obtain ⟨hp, hq, _⟩ := isS_true h2
      rw [if_pos h2, if_pos ⟨h, h2⟩, dot_w ha hb hp (by omega), dot_w hc hd hp (by omega), spec_slope _ _ _ hk]
      rfl
    · rw [if_neg h2, if_neg (fun h => h2 h.2)]
  · rw [if_neg h, if_neg (fun h' => h h'.1)]
theorem impl_move (a b c d p q : Int) (k : Nat) (hk : 1001 < k) : impl_MoveSlope.f k a b c d p q = some (moveR a b c d p q) := by
  unfold impl_MoveSlope.f moveR
  rw [impl_isM _ _ _ _ _ (by omega), impl_isS _ _ _ (by omega), Option.bind_some, Option.bind_some]
  by_cases h : isM a b c d = true
  · rw [if_pos h]
    by_cases h2 : isS p q = true
    · obtain ⟨ha, hb, hc, hd, _⟩ := isM_true h
      obtain ⟨hp, hq, _⟩ := isS_true h2
      rw [if_pos h2, if_pos ⟨h, h2⟩, dot_w ha hb hp (by omega), dot_w hc hd hp (by omega), impl_slope _ _ _ (by omega)]
      rfl
    · rw [if_neg h2, if_neg (fun h => h2 h.2)]
  · rw [if_neg h, if_neg (fun h' => h h'.1)]
end Go.Proofs.Ytjmifldndjkmpaa.L
