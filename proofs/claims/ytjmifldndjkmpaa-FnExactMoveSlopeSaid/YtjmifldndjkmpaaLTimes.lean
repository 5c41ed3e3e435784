/- What the program's and the reference's TimesMatrix compute; no condition but the number of rounds. -/
import Derived.Test.YtjmifldndjkmpaaPx12
import Derived.Test.YtjmifldndjkmpaaPx17
import Derived.Test.YtjmifldndjkmpaaHelp
import Derived.Test.YtjmifldndjkmpaaLIsM
namespace Go.Proofs.Ytjmifldndjkmpaa.L
open Go.RowKit Go.Proofs.Ytjmifldndjkmpaa.P Go.Proofs.Ytjmifldndjkmpaa.Help Go.Proofs.YtjmifldndjkmpaaW.PrintWords
set_option linter.unusedVariables false
set_option linter.unusedSimpArgs false

/-- The product of two matrices, if it is one. -/
def timesR (a b c d e f g h : Int) : Int × Int × Int × Int × Bool :=
  if isM a b c d = true ∧ isM e f g h = true ∧ isM (a * e + b * g) (a * f + b * h) (c * e + d * g) (c * f + d * h) = true then (a * e + b * g, a * f + b * h, c * e + d * g, c * f + d * h, true) else (0, 0, 0, 0, false)
theorem dot_w {a b e g : Int} (ha : -1000 ≤ a ∧ a ≤ 1000) (hb : -1000 ≤ b ∧ b ≤ 1000) (he : -1000 ≤ e ∧ e ≤ 1000) (hg : -1000 ≤ g ∧ g ≤ 1000) : wrap64 ((wrap64 (a * e)) + (wrap64 (b * g))) = a * e + b * g := by
  have h1 := mulb ha.1 ha.2 he.1 he.2
  have h2 := mulb hb.1 hb.2 hg.1 hg.2
  rw [w_id (a := a * e) (by omega) (by omega), w_id (a := b * g) (by omega) (by omega), w_id (by omega) (by omega)]
theorem spec_prod {a b c d e f g h : Int} (ha : -1000 ≤ a ∧ a ≤ 1000) (hb : -1000 ≤ b ∧ b ≤ 1000) (hc : -1000 ≤ c ∧ c ≤ 1000) (hd : -1000 ≤ d ∧ d ≤ 1000) (he : -1000 ≤ e ∧ e ≤ 1000) (hf : -1000 ≤ f ∧ f ≤ 1000) (hg : -1000 ≤ g ∧ g ≤ 1000) (hh : -1000 ≤ h ∧ h ≤ 1000) :
    spec_l13Times.f a b c d e f g h = some (a * e + b * g, a * f + b * h, c * e + d * g, c * f + d * h) := by
  unfold spec_l13Times.f
  rw [dot_w ha hb he hg, dot_w ha hb hf hh, dot_w hc hd he hg, dot_w hc hd hf hh]
theorem spec_times (a b c d e f g h : Int) (k : Nat) (hk : 4 < k) : spec_TimesMatrix.f k a b c d e f g h = some (timesR a b c d e f g h) := by
  unfold spec_TimesMatrix.f timesR
  rw [spec_isM _ _ _ _ _ hk, spec_isM _ _ _ _ _ hk, Option.bind_some, Option.bind_some]
  by_cases h1 : isM a b c d = true
  · rw [if_pos h1]
    by_cases h2 : isM e f g h = true
    · rw [if_pos h2]
      obtain ⟨ha, hb, hc, hd, _⟩ := isM_true h1
      obtain ⟨he, hf, hg, hh, _⟩ := isM_true h2
      rw [spec_prod ha hb hc hd he hf hg hh]
      simp only [Option.bind_some]
      rw [spec_isM _ _ _ _ _ hk, Option.bind_some]
      simp only [h1, h2, true_and]
      split <;> rfl
    · rw [if_neg h2, if_neg (fun h => h2 h.2.1)]
  · rw [if_neg h1, if_neg (fun h => h1 h.1)]
theorem impl_times (a b c d e f g h : Int) (k : Nat) (hk : 5 < k) : impl_TimesMatrix.f k a b c d e f g h = some (timesR a b c d e f g h) := by
  unfold impl_TimesMatrix.f timesR
  rw [impl_isM _ _ _ _ _ (by omega), impl_isM _ _ _ _ _ (by omega), Option.bind_some, Option.bind_some]
  obtain ⟨k, rfl⟩ : ∃ m, k = m + 1 := ⟨k - 1, by omega⟩
  simp only [impl_TimesMatrix.j0]
  by_cases h1 : isM a b c d = true
  · rw [if_pos h1]
    by_cases h2 : isM e f g h = true
    · obtain ⟨ha, hb, hc, hd, _⟩ := isM_true h1
      obtain ⟨he, hf, hg, hh, _⟩ := isM_true h2
      rw [dot_w ha hb he hg, dot_w ha hb hf hh, dot_w hc hd he hg, dot_w hc hd hf hh, impl_isM _ _ _ _ _ (by omega), Option.bind_some]
      simp only [h1, h2, true_and, Bool.not_true, Bool.false_eq_true, if_false]
      split <;> rfl
    · rw [if_pos (by simpa using h2), if_neg (fun h => h2 h.2.1)]
  · rw [if_neg h1, if_pos trivial, if_neg (fun h => h1 h.1)]
end Go.Proofs.Ytjmifldndjkmpaa.L
