/- What the program's and the reference's SlopeOf compute; no condition but the number of rounds. -/
import Derived.Test.YtjmifldndjkmpaaPx13
import Derived.Test.YtjmifldndjkmpaaPx14
import Derived.Test.YtjmifldndjkmpaaHelp
import Derived.Test.YtjmifldndjkmpaaLGcd
namespace Go.Proofs.Ytjmifldndjkmpaa.L
open Go.RowKit Go.Proofs.Ytjmifldndjkmpaa.P Go.Proofs.Ytjmifldndjkmpaa.Help Go.Proofs.YtjmifldndjkmpaaW.PrintWords
set_option linter.unusedVariables false
set_option linter.unusedSimpArgs false

/-- The slope of two numbers. -/
def slopeR (p q : Int) : Int × Int × Bool :=
  if (-1000 ≤ p ∧ p ≤ 1000) ∧ (-1000 ≤ q ∧ q ≤ 1000) ∧ ¬ (p = 0 ∧ q = 0) then
    if q < 0 ∨ (q = 0 ∧ p < 0) then (-(p.tdiv (Int.gcd p q)), -(q.tdiv (Int.gcd p q)), true) else (p.tdiv (Int.gcd p q), q.tdiv (Int.gcd p q), true)
  else (0, 0, false)
/-- Two numbers by their greatest common divisor. -/
theorem parts (p q : Int) (h : ¬ (p = 0 ∧ q = 0)) : ∃ g m n : Int, 0 < g ∧ (Int.gcd p q : Int) = g ∧ p = g * m ∧ q = g * n ∧ p.tdiv g = m ∧ q.tdiv g = n ∧ (n < 0 ↔ q < 0) ∧ (n = 0 ↔ q = 0) ∧ (m < 0 ↔ p < 0) ∧ (m = 0 ↔ p = 0) ∧ m.natAbs ≤ p.natAbs ∧ n.natAbs ≤ q.natAbs := by
  have hg : 0 < (Int.gcd p q : Int) := by
    have : Int.gcd p q ≠ 0 := fun h0 => h (Int.gcd_eq_zero_iff.1 h0)
    omega
  obtain ⟨m, hm⟩ := Int.gcd_dvd_left (a := p) (b := q)
  obtain ⟨n, hn⟩ := Int.gcd_dvd_right (a := p) (b := q)
  have sgn : ∀ x y : Int, y = (Int.gcd p q : Int) * x → (x < 0 ↔ y < 0) ∧ (x = 0 ↔ y = 0) ∧ x.natAbs ≤ y.natAbs ∧ y.tdiv (Int.gcd p q : Int) = x := by
    intro x y hy
    refine ⟨?_, ?_, ?_, ?_⟩
    · constructor
      · intro hx; rw [hy]; exact Int.mul_neg_of_pos_of_neg hg hx
      · intro hlt
        rcases Int.lt_or_le x 0 with hx | hx
        · exact hx
        · have := Int.mul_nonneg (Int.le_of_lt hg) hx
          omega
    · constructor
      · intro hx; rw [hy, hx, Int.mul_zero]
      · intro h0
        rw [hy] at h0
        rcases Int.mul_eq_zero.1 h0 with h1 | h1
        · omega
        · exact h1
    · rw [hy, Int.natAbs_mul]
      exact Nat.le_mul_of_pos_left _ (by omega)
    · rw [hy, Int.mul_tdiv_cancel_left _ (by omega)]
  obtain ⟨a1, a2, a3, a4⟩ := sgn m p hm
  obtain ⟨b1, b2, b3, b4⟩ := sgn n q hn
  exact ⟨_, m, n, hg, rfl, hm, hn, a4, b4, b1, b2, a1, a2, a3, b3⟩
theorem slopeR_no {p q : Int} (h : ¬ ((-1000 ≤ p ∧ p ≤ 1000) ∧ (-1000 ≤ q ∧ q ≤ 1000) ∧ ¬ (p = 0 ∧ q = 0))) : slopeR p q = (0, 0, false) := by
  unfold slopeR
  rw [if_neg h]
theorem slopeR_yes {p q : Int} (h : (-1000 ≤ p ∧ p ≤ 1000) ∧ (-1000 ≤ q ∧ q ≤ 1000) ∧ ¬ (p = 0 ∧ q = 0)) : slopeR p q = if q < 0 ∨ (q = 0 ∧ p < 0) then (-(p.tdiv (Int.gcd p q)), -(q.tdiv (Int.gcd p q)), true) else (p.tdiv (Int.gcd p q), q.tdiv (Int.gcd p q), true) := by
  unfold slopeR
  rw [if_pos h]
theorem spec_slope (p q : Int) (k : Nat) (hk : 1001 < k) : spec_SlopeOf.f k p q = some (slopeR p q) := by
  obtain ⟨k, rfl⟩ : ∃ m, k = m + 1 := ⟨k - 1, by omega⟩
  unfold spec_SlopeOf.f
  rw [l1In_eq, l1In_eq, Option.bind_some, Option.bind_some]
  by_cases h1 : -1000 ≤ p ∧ p ≤ 1000
  · by_cases h2 : -1000 ≤ q ∧ q ≤ 1000
    · rw [if_pos (decide_eq_true h1), if_pos (decide_eq_true h2)]
      by_cases h3 : p = 0 ∧ q = 0
      · rw [slopeR_no (fun h => h.2.2 h3)]
        obtain ⟨rfl, rfl⟩ := h3
        simp [spec_SlopeOf.j0]
      · rw [slopeR_yes ⟨h1, h2, h3⟩]
        have hj : (if p = 0 then spec_SlopeOf.j0 (k + 1) p q (q == 0) else spec_SlopeOf.j0 (k + 1) p q false) = spec_SlopeOf.j0 (k + 1) p q false := by
          split
          · rename_i h4
            rw [show (q == 0) = false from by simpa using fun h5 => h3 ⟨h4, h5⟩]
          · rfl
        rw [hj]
        simp only [spec_SlopeOf.j0]
        rw [if_neg (by decide), spec_gcd p q k (by omega) (by omega) (by omega), Option.bind_some]
        obtain ⟨g, m, n, hg, hge, hp, hq, dm, dn, s1, s2, s3, s4, b1, b2⟩ := parts p q h3
        rw [hge]
        have hgb : g ≤ 1000 := by
          have h5 : g.natAbs ≤ 1000 := by
            by_cases h0 : p = 0
            · have : q ≠ 0 := fun h => h3 ⟨h0, h⟩
              have h6 : q.natAbs = g.natAbs * n.natAbs := by rw [hq, Int.natAbs_mul]
              have h7 : 0 < n.natAbs := by omega
              have := Nat.le_mul_of_pos_right g.natAbs h7
              omega
            · have h6 : p.natAbs = g.natAbs * m.natAbs := by rw [hp, Int.natAbs_mul]
              have h7 : 0 < m.natAbs := by omega
              have := Nat.le_mul_of_pos_right g.natAbs h7
              omega
          omega
        rw [w_id (a := -g) (by omega) (by omega), Int.tdiv_neg, Int.tdiv_neg, dm, dn, w_id (a := m) (by omega) (by omega), w_id (a := n) (by omega) (by omega), w_id (a := -m) (by omega) (by omega), w_id (a := -n) (by omega) (by omega)]
        by_cases c1 : q < 0
        · rw [if_pos c1, if_neg (by omega), if_pos (.inl c1)]
        · rw [if_neg c1]
          by_cases c2 : q = 0
          · rw [if_pos c2]
            by_cases c3 : p < 0
            · rw [if_pos c3, if_neg (by omega), if_pos (.inr ⟨c2, c3⟩)]
            · rw [if_neg c3, if_neg (by omega), if_neg (by omega)]
          · rw [if_neg c2, if_neg (by omega), if_neg (by omega)]
    · rw [if_pos (decide_eq_true h1), if_neg (by simpa using h2), slopeR_no (fun h => h2 h.2.1)]
      simp [spec_SlopeOf.j0]
  · rw [if_neg (by simpa using h1), slopeR_no (fun h => h1 h.1)]
    simp [spec_SlopeOf.j0]
theorem slopeR_ok {p q : Int} (h1 : -1000 ≤ p ∧ p ≤ 1000) (h2 : -1000 ≤ q ∧ q ≤ 1000) (h3 : ¬ (p = 0 ∧ q = 0)) : (slopeR p q).2.2 = true := by
  unfold slopeR
  rw [if_pos ⟨h1, h2, h3⟩]
  split <;> rfl
theorem impl_lowest_eq (p q : Int) (k : Nat) (hk : 1000 < k) (h1 : -1000 ≤ p ∧ p ≤ 1000) (h2 : -1000 ≤ q ∧ q ≤ 1000) (h3 : ¬ (p = 0 ∧ q = 0)) : impl_lowest.f k p q = some ((slopeR p q).1, (slopeR p q).2.1) := by
  unfold impl_lowest.f
  rw [slopeR_yes ⟨h1, h2, h3⟩, impl_gcd_eq p q k (by omega) (by omega) (by omega), Option.bind_some]
  obtain ⟨g, m, n, hg, hge, hp, hq, dm, dn, s1, s2, s3, s4, b1, b2⟩ := parts p q h3
  rw [hge, dm, dn, if_neg (by omega), w_id (a := m) (by omega) (by omega), w_id (a := n) (by omega) (by omega), w_id (a := -m) (by omega) (by omega), w_id (a := -n) (by omega) (by omega)]
  by_cases c1 : q < 0
  · rw [if_pos (s1.2 c1), if_pos (.inl c1)]
  · rw [if_neg (fun h => c1 (s1.1 h))]
    by_cases c2 : q = 0
    · rw [if_pos (s2.2 c2)]
      by_cases c3 : p < 0
      · rw [if_pos (s3.2 c3), if_pos (.inr ⟨c2, c3⟩)]
      · rw [if_neg (fun h => c3 (s3.1 h)), if_neg (by omega)]
    · rw [if_neg (fun h => c2 (s2.1 h)), if_neg (by omega)]
theorem impl_slope (p q : Int) (k : Nat) (hk : 1000 < k) : impl_SlopeOf.f k p q = some (slopeR p q) := by
  unfold impl_SlopeOf.f
  rw [within_eq, within_eq, Option.bind_some, Option.bind_some]
  by_cases h3 : p = 0 ∧ q = 0
  · obtain ⟨rfl, rfl⟩ := h3
    rw [if_pos rfl, if_pos rfl]
    simp [slopeR]
  · have key : (if decide (-1000 ≤ p ∧ p ≤ 1000) = true then (if decide (-1000 ≤ q ∧ q ≤ 1000) = true then ((impl_lowest.f k p q).bind fun b => (some (b.1, b.2, true))) else (some (0, 0, false))) else (some (0, 0, false))) = some (slopeR p q) := by
      by_cases h1 : -1000 ≤ p ∧ p ≤ 1000
      · by_cases h2 : -1000 ≤ q ∧ q ≤ 1000
        · rw [if_pos (decide_eq_true h1), if_pos (decide_eq_true h2), impl_lowest_eq p q k hk h1 h2 h3, Option.bind_some]
          have := slopeR_ok h1 h2 h3
          congr 1
          rw [← this]
        · rw [if_pos (decide_eq_true h1), if_neg (by simpa using h2)]
          rw [slopeR_no (fun h => h2 h.2.1)]
      · rw [if_neg (by simpa using h1)]
        rw [slopeR_no (fun h => h1 h.1)]
    by_cases h0 : p = 0
    · rw [if_pos h0, if_neg (fun h => h3 ⟨h0, h⟩)]
      exact key
    · rw [if_neg h0]
      exact key
theorem slopeR_zero : slopeR 0 0 = (0, 0, false) := by simp [slopeR]
end Go.Proofs.Ytjmifldndjkmpaa.L
