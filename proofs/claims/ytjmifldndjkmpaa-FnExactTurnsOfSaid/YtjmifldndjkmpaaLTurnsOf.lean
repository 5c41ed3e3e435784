/- What the program's and the reference's TurnsOf compute; no condition but the number of rounds. -/
import Derived.Test.YtjmifldndjkmpaaPx6
import Derived.Test.YtjmifldndjkmpaaPx31
import Derived.Test.YtjmifldndjkmpaaPx32
import Derived.Test.YtjmifldndjkmpaaPx33
import Derived.Test.YtjmifldndjkmpaaHelp
import Derived.Test.YtjmifldndjkmpaaLTimes
namespace Go.Proofs.Ytjmifldndjkmpaa.L
open Go.RowKit Go.Proofs.Ytjmifldndjkmpaa.P Go.Proofs.Ytjmifldndjkmpaa.Help Go.Proofs.YtjmifldndjkmpaaW.PrintWords
set_option linter.unusedVariables false
set_option linter.unusedSimpArgs false

def turnM (x : Int) : Int × Int × Int × Int := if x = 82 then (1, 1, 0, 1) else if x = 76 then (1, 0, 1, 1) else if x = 114 then (1, -1, 0, 1) else if x = 108 then (1, 0, -1, 1) else (0, 0, 0, 0)
theorem spec_turn (x : Int) : spec_l13Turn.f x = some (turnM x) := by
  unfold spec_l13Turn.f turnM
  repeat' split
  all_goals rfl
/-- The product of the turns of a text from a place on. -/
def tofI (s : ByteArray) : Nat → Nat → Int → Int → Int → Int → Int × Int × Int × Int × Bool
  | 0, _, a, b, c, d => (a, b, c, d, true)
  | n + 1, i, a, b, c, d =>
    if (timesR a b c d (turnM (bt s i)).1 (turnM (bt s i)).2.1 (turnM (bt s i)).2.2.1 (turnM (bt s i)).2.2.2).2.2.2.2 = true then
      tofI s n (i + 1) (timesR a b c d (turnM (bt s i)).1 (turnM (bt s i)).2.1 (turnM (bt s i)).2.2.1 (turnM (bt s i)).2.2.2).1 (timesR a b c d (turnM (bt s i)).1 (turnM (bt s i)).2.1 (turnM (bt s i)).2.2.1 (turnM (bt s i)).2.2.2).2.1 (timesR a b c d (turnM (bt s i)).1 (turnM (bt s i)).2.1 (turnM (bt s i)).2.2.1 (turnM (bt s i)).2.2.2).2.2.1 (timesR a b c d (turnM (bt s i)).1 (turnM (bt s i)).2.1 (turnM (bt s i)).2.2.1 (turnM (bt s i)).2.2.2).2.2.2.1
    else (0, 0, 0, 0, false)
theorem spec_tofI (s : ByteArray) (hs : s.size ≤ 24) : ∀ (n k i : Nat) (a b c d : Int), i + n = s.size → 2 * n + 8 < k → spec_TurnsOf.l0 k s (i : Int) a b c d = some (tofI s n i a b c d) := by
  intro n
  induction n with
  | zero =>
    intro k i a b c d hi hk
    obtain ⟨k, rfl⟩ : ∃ m, k = m + 2 := ⟨k - 2, by omega⟩
    simp only [spec_TurnsOf.l0, spec_TurnsOf.j1, tofI]
    rw [if_neg (by omega), if_neg (by decide), if_neg (by omega)]
  | succ n ih =>
    intro k i a b c d hi hk
    obtain ⟨k, rfl⟩ : ∃ m, k = m + 2 := ⟨k - 2, by omega⟩
    simp only [spec_TurnsOf.l0, spec_TurnsOf.j1, tofI]
    rw [if_pos (by omega), if_pos (decide_eq_true (by omega)), if_pos (by omega), if_pos (by omega), spec_turn, Option.bind_some, spec_times _ _ _ _ _ _ _ _ _ (by omega), Option.bind_some]
    split
    · rw [w_id (by omega) (by omega), show ((i : Int) + 1) = ((i + 1 : Nat) : Int) by omega, ih k (i + 1) _ _ _ _ (by omega) (by omega)]
    · rfl
theorem impl_turn (x : Int) : (impl_turnOf.f x = some ((turnM x).1, (turnM x).2.1, (turnM x).2.2.1, (turnM x).2.2.2, true)) ∨ (impl_turnOf.f x = some (0, 0, 0, 0, false) ∧ turnM x = (0, 0, 0, 0)) := by
  unfold impl_turnOf.f turnM
  by_cases h1 : x = 82
  · left; simp [h1]
  · by_cases h2 : x = 76
    · left; simp [h2]
    · by_cases h3 : x = 114
      · left; simp [h3]
      · by_cases h4 : x = 108
        · left; simp [h4]
        · right; simp [h1, h2, h3, h4]
theorem timesR_zero (a b c d : Int) : timesR a b c d 0 0 0 0 = (0, 0, 0, 0, false) := by
  unfold timesR
  rw [if_neg (fun h => absurd h.2.1 (by decide))]
theorem impl_tofI (s : ByteArray) (hs : s.size ≤ 24) : ∀ (n k i : Nat) (a b c d : Int), i + n = s.size → n + 8 < k → impl_TurnsOf.l0 k s (s.size : Int) (i : Int) a b c d = some (tofI s n i a b c d) := by
  intro n
  induction n with
  | zero =>
    intro k i a b c d hi hk
    obtain ⟨k, rfl⟩ : ∃ m, k = m + 1 := ⟨k - 1, by omega⟩
    simp only [impl_TurnsOf.l0, tofI]
    rw [if_neg (by omega)]
  | succ n ih =>
    intro k i a b c d hi hk
    obtain ⟨k, rfl⟩ : ∃ m, k = m + 1 := ⟨k - 1, by omega⟩
    simp only [impl_TurnsOf.l0, tofI]
    rw [if_pos (by omega), if_pos (by omega), if_pos (by omega)]
    rcases impl_turn (bt s i) with h | ⟨h, h2⟩
    · rw [h, Option.bind_some]
      simp only
      rw [if_pos trivial, impl_times _ _ _ _ _ _ _ _ _ (by omega), Option.bind_some]
      split
      · rw [w_id (by omega) (by omega), show ((i : Int) + 1) = ((i + 1 : Nat) : Int) by omega, ih k (i + 1) _ _ _ _ (by omega) (by omega)]
      · rfl
    · rw [h, h2, Option.bind_some]
      simp only [timesR_zero]
      simp
def turnsOfR (s : ByteArray) : Int × Int × Int × Int × Bool := if s.size > 24 then (0, 0, 0, 0, false) else tofI s s.size 0 1 0 0 1
theorem spec_turnsOf (s : ByteArray) (hsz : s.size ≤ 9000000000000000000) (k : Nat) (hk : 60 < k) : spec_TurnsOf.f k s = some (turnsOfR s) := by
  unfold spec_TurnsOf.f turnsOfR
  by_cases h : s.size > 24
  · rw [if_pos h]
    obtain ⟨k, rfl⟩ : ∃ m, k = m + 2 := ⟨k - 2, by omega⟩
    simp only [spec_TurnsOf.l0, spec_TurnsOf.j1]
    rw [if_pos (by omega), if_neg (by simp; omega), if_pos (by omega)]
  · rw [if_neg h]
    exact spec_tofI s (by omega) s.size k 0 1 0 0 1 (by omega) (by omega)
theorem impl_turnsOf (s : ByteArray) (hsz : s.size ≤ 9000000000000000000) (k : Nat) (hk : 60 < k) : impl_TurnsOf.f k s = some (turnsOfR s) := by
  unfold impl_TurnsOf.f turnsOfR impl_one.f
  by_cases h : s.size > 24
  · rw [if_pos h, if_pos (by omega)]
  · rw [if_neg h, if_neg (by omega), Option.bind_some]
    exact impl_tofI s (by omega) s.size k 0 1 0 0 1 (by omega) (by omega)
end Go.Proofs.Ytjmifldndjkmpaa.L
