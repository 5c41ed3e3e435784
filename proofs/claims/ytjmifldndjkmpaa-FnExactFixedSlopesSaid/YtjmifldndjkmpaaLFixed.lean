/- What the program's and the reference's FixedSlopes compute; no condition but the number of rounds. -/
import Derived.Test.YtjmifldndjkmpaaPx0
import Derived.Test.YtjmifldndjkmpaaPx40
import Derived.Test.YtjmifldndjkmpaaHelp
import Derived.Test.YtjmifldndjkmpaaLKind
import Derived.Test.YtjmifldndjkmpaaLSlopeOf
namespace Go.Proofs.Ytjmifldndjkmpaa.L
open Go.RowKit Go.Proofs.Ytjmifldndjkmpaa.P Go.Proofs.Ytjmifldndjkmpaa.Help Go.Proofs.YtjmifldndjkmpaaW.PrintWords
set_option linter.unusedVariables false
set_option linter.unusedSimpArgs false

/-- The slope that a twist keeps. -/
def fixR (a b c d : Int) : List S38 :=
  if isM a b c d = true ∧ ¬ (b = 0 ∧ c = 0) ∧ (a + d = 2 ∨ a + d = -2) then
    if a - (a + d).tdiv 2 = 0 ∧ c = 0 then
      (if (slopeR b (d - (a + d).tdiv 2)).2.2 = true then [⟨(slopeR b (d - (a + d).tdiv 2)).1, (slopeR b (d - (a + d).tdiv 2)).2.1⟩] else [])
    else [⟨(slopeR (a - (a + d).tdiv 2) c).1, (slopeR (a - (a + d).tdiv 2) c).2.1⟩]
  else []
theorem fixR_len (a b c d : Int) : (fixR a b c d).length ≤ 1 := by
  unfold fixR
  repeat' split
  all_goals simp
theorem half {a d : Int} (h : a + d = 2 ∨ a + d = -2) : ∃ t : Int, (a + d).tdiv 2 = t ∧ (t = 1 ∧ a + d = 2 ∨ t = -1 ∧ a + d = -2) := by
  rcases h with h | h
  · exact ⟨1, by rw [h]; rfl, .inl ⟨rfl, h⟩⟩
  · exact ⟨-1, by rw [h]; rfl, .inr ⟨rfl, h⟩⟩
theorem fixR_no {a b c d : Int} (h : ¬ (isM a b c d = true ∧ ¬ (b = 0 ∧ c = 0) ∧ (a + d = 2 ∨ a + d = -2))) : fixR a b c d = [] := by
  unfold fixR
  rw [if_neg h]
theorem fixR_yes {a b c d t : Int} (h : isM a b c d = true ∧ ¬ (b = 0 ∧ c = 0) ∧ (a + d = 2 ∨ a + d = -2)) (e : (a + d).tdiv 2 = t) : fixR a b c d =
    if a - t = 0 ∧ c = 0 then (if (slopeR b (d - t)).2.2 = true then [⟨(slopeR b (d - t)).1, (slopeR b (d - t)).2.1⟩] else []) else [⟨(slopeR (a - t) c).1, (slopeR (a - t) c).2.1⟩] := by
  unfold fixR
  rw [if_pos h, e]
theorem spec_fixed (a b c d : Int) (k : Nat) (hk : 1002 < k) : spec_FixedSlopes.f k a b c d = some (fixR a b c d) := by
  unfold spec_FixedSlopes.f
  simp only [Option.bind_some]
  rw [spec_kind _ _ _ _ _ (by omega), Option.bind_some]
  by_cases h : isM a b c d = true
  · obtain ⟨ha, hb, hc, hd, _⟩ := isM_true h
    rcases kind_cases h with ⟨h1, h2⟩ | ⟨h1, h2, h3⟩ | ⟨h1, h2, ⟨h3, h4⟩ | ⟨h3, h4⟩⟩
    · rw [h2, if_neg (by decide), fixR_no (fun h => h.2.1 h1)]
    · rw [h3, if_neg (by decide), fixR_no (fun h => by omega)]
    · obtain ⟨t, e, ht⟩ := half h3
      rw [h4, if_pos rfl, fixR_yes ⟨h, h1, h3⟩ e]
      rw [w_id (a := a + d) (by omega) (by omega), e, w_id (a := t) (by omega) (by omega), w_id (a := a - t) (by omega) (by omega), w_id (a := d - t) (by omega) (by omega), spec_slope _ _ _ (by omega), spec_slope _ _ _ (by omega), Option.bind_some, Option.bind_some]
      by_cases h0 : a - t = 0 ∧ c = 0
      · rw [if_pos h0, h0.1, h0.2, slopeR_zero]
        simp only [Bool.false_eq_true, if_false, List.length_nil, List.nil_append]
        split
        · rw [if_pos (by decide)]
        · rfl
      · rw [if_neg h0, if_pos (slopeR_ok (by omega) (by omega) h0)]
        simp
    · rw [h4, if_neg (by decide), fixR_no (fun h => h3 h.2.2)]
  · rw [isM_false_kind h, if_neg (by decide), fixR_no (fun h' => h h'.1)]
theorem impl_fixed (a b c d : Int) (k : Nat) (hk : 1002 < k) : impl_FixedSlopes.f k a b c d = some (fixR a b c d) := by
  unfold impl_FixedSlopes.f
  rw [impl_kind _ _ _ _ _ (by omega), Option.bind_some]
  obtain ⟨k, rfl⟩ : ∃ m, k = m + 1 := ⟨k - 1, by omega⟩
  by_cases h : isM a b c d = true
  · obtain ⟨ha, hb, hc, hd, _⟩ := isM_true h
    rcases kind_cases h with ⟨h1, h2⟩ | ⟨h1, h2, h3⟩ | ⟨h1, h2, ⟨h3, h4⟩ | ⟨h3, h4⟩⟩
    · rw [h2, if_neg (by decide), fixR_no (fun h => h.2.1 h1)]
    · rw [h3, if_neg (by decide), fixR_no (fun h => by omega)]
    · obtain ⟨t, e, ht⟩ := half h3
      rw [h4, if_pos rfl, fixR_yes ⟨h, h1, h3⟩ e]
      simp only [impl_FixedSlopes.j0]
      rw [w_id (a := a + d) (by omega) (by omega), e, w_id (a := t) (by omega) (by omega), w_id (a := a - t) (by omega) (by omega), w_id (a := d - t) (by omega) (by omega), impl_slope _ _ _ (by omega), impl_slope _ _ _ (by omega), Option.bind_some, Option.bind_some]
      by_cases h0 : a - t = 0 ∧ c = 0
      · rw [if_pos h0, if_pos h0.1, if_pos (by simpa using h0.2)]
        split <;> rfl
      · have hok := slopeR_ok (p := a - t) (q := c) (by omega) (by omega) h0
        rw [if_neg h0]
        by_cases h5 : a - t = 0
        · rw [if_pos h5, if_neg (by simpa using fun h6 => h0 ⟨h5, h6⟩), if_pos hok]
        · rw [if_neg h5, if_neg (by decide), if_pos hok]
    · rw [h4, if_neg (by decide), fixR_no (fun h => h3 h.2.2)]
  · rw [isM_false_kind h, if_neg (by decide), fixR_no (fun h' => h h'.1)]
end Go.Proofs.Ytjmifldndjkmpaa.L
