/- The program's LinkRow answers as the reference's, for all arguments; no condition. -/
import Derived.Test.YtfcdomcnkeeffaaPx33
import Derived.Test.YtfcdomcnkeeffaaLRow
import Derived.Test.YtfcdomcnkeeffaaLInts
import Derived.Test.YtfcdomcnkeeffaaLMark
namespace Go.Proofs.Ytfcdomcnkeeffaa.Pure
open Go.RowKit Go.Proofs.Ytfcdomcnkeeffaa.P Go.Proofs.Ytfcdomcnkeeffaa.Help Go.Proofs.Ytfcdomcnkeeffaa.L
theorem FnExactLinkRow : ∀ (l0 : List Int), l0.length ≤ 9223372036854775807 → (∀ x ∈ l0, I64 x) → ∃ k, laws_FnExactLinkRow.f k l0 = some true := by
  intro w _ _
  refine ⟨1060010, ?_⟩
  unfold laws_FnExactLinkRow.f
  by_cases h : (w.length : Int) > 1048576
  · rw [if_pos h]
  · have hl := rowR_len w
    rw [if_neg h, toIntS_f w (by omega) _ (by omega), Option.bind_some, spec_row w (by omega) _ (by omega)]
    simp only [Option.bind_some]
    rw [impl_row w (by omega) _ (by omega)]
    simp only [Option.bind_some]
    rw [eqIntS_self _ (by omega) _ (by omega)]
    simp only [Option.bind_some, if_true]
    rw [eqIntS_self w (by omega) _ (by omega)]
    simp only [Option.bind_some, if_true]
    rw [markIntS_f w (by omega) 1 (by omega) _ (by omega)]
    simp only [Option.bind_some]
    rw [if_neg (by omega)]
    simp only [laws_FnExactLinkRow.j0, Bool.not_true, Bool.false_eq_true, if_false]
    rw [markIntS_f _ (by omega) 1 (by omega) _ (by omega)]
    simp only [Option.bind_some]
    rw [heldIntS_f _ (by omega) 1 (by omega) _ (by omega)]
    simp only [Option.bind_some, if_true]
    rw [if_neg (by omega), toIntS_f w (by omega) _ (by omega)]
    simp only [Option.bind_some]
    rw [impl_row w (by omega) _ (by omega)]
    simp only [Option.bind_some]
    rw [eqIntS_self _ (by omega) _ (by omega)]
    simp only [Option.bind_some, if_true]
    rw [if_neg (by omega)]
end Go.Proofs.Ytfcdomcnkeeffaa.Pure
