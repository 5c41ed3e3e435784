/- The program's AddCoordinates answers as the reference's, for all arguments; no condition. -/
import Derived.Test.YtcligopbieaceaaPx6
import Derived.Test.YtcligopbieaceaaLAdd
import Derived.Test.YtcligopbieaceaaLInts
import Derived.Test.YtcligopbieaceaaLMark
namespace Go.Proofs.Ytcligopbieaceaa.Pure
open Go.RowKit Go.Proofs.Ytcligopbieaceaa.P Go.Proofs.Ytcligopbieaceaa.Help Go.Proofs.Ytcligopbieaceaa.L
theorem FnExactAddCoordinates : ∀ (l0 : List Int) (l1 : List Int), l0.length ≤ 9223372036854775807 → (∀ x ∈ l0, I64 x) → l1.length ≤ 9223372036854775807 → (∀ x ∈ l1, I64 x) → ∃ k, laws_FnExactAddCoordinates.f k l0 l1 = some true := by
  intro x y _ _ _ _
  refine ⟨2097170, ?_⟩
  unfold laws_FnExactAddCoordinates.f
  by_cases h : (x.length : Int) > 1048576
  · rw [if_pos h]
  · rw [if_neg h]
    by_cases h2 : (y.length : Int) > 1048576
    · rw [if_pos h2]
    · have hl := addR_len x y
      rw [if_neg h2, toIntS_f x (by omega) _ (by omega), Option.bind_some, toIntS_f y (by omega) _ (by omega), Option.bind_some, spec_add x y (by omega) _ (by omega)]
      simp only [Option.bind_some]
      rw [impl_add x y (by omega) _ (by omega)]
      simp only [Option.bind_some]
      rw [eqIntS_self _ (by omega) _ (by omega)]
      simp only [Option.bind_some, if_true, bne_self_eq_false]
      simp only [laws_FnExactAddCoordinates.j0, Bool.false_eq_true, if_false]
      rw [toIntS_f x (by omega) _ (by omega)]
      simp only [Option.bind_some]
      rw [eqIntS_self x (by omega) _ (by omega)]
      simp only [Option.bind_some, if_true]
      rw [toIntS_f y (by omega) _ (by omega)]
      simp only [Option.bind_some]
      rw [eqIntS_self y (by omega) _ (by omega)]
      simp only [Option.bind_some, if_true]
      rw [markIntS_f x (by omega) 1 (by omega) _ (by omega)]
      simp only [Option.bind_some]
      rw [markIntS_f y (by omega) _ (by omega) _ (by omega)]
      simp only [Option.bind_some]
      rw [if_neg (by omega), eqIntS_self _ (by omega) _ (by omega)]
      simp only [Option.bind_some, if_true, bne_self_eq_false]
      simp only [laws_FnExactAddCoordinates.j1, Bool.false_eq_true, if_false]
      rw [markIntS_f _ (by omega) 1 (by omega) _ (by omega)]
      simp only [Option.bind_some]
      rw [heldIntS_f _ (by omega) 1 (by omega) _ (by omega)]
      simp only [Option.bind_some, if_true]
      rw [if_neg (by omega), toIntS_f x (by omega) _ (by omega)]
      simp only [Option.bind_some]
      rw [toIntS_f y (by omega) _ (by omega)]
      simp only [Option.bind_some]
      rw [impl_add x y (by omega) _ (by omega)]
      simp only [Option.bind_some]
      rw [eqIntS_self _ (by omega) _ (by omega)]
      simp only [Option.bind_some, if_true, bne_self_eq_false]
      simp only [laws_FnExactAddCoordinates.j2, Bool.false_eq_true, if_false]
      rw [heldIntS_f _ (by omega) 1 (by omega) _ (by omega)]
      simp only [Option.bind_some, if_true]
      rw [if_neg (by omega)]
end Go.Proofs.Ytcligopbieaceaa.Pure
