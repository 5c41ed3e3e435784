/- The slopes with numbers up to a bound, as the reference lists them; no condition but the number of rounds. -/
import Derived.Test.YtbnjcebmnamfjaaPx0
import Derived.Test.YtbnjcebmnamfjaaPx7
import Derived.Test.YtbnjcebmnamfjaaLCross
namespace Go.Proofs.Ytbnjcebmnamfjaa.L
open Go.RowKit Go.Proofs.Ytbnjcebmnamfjaa.P Go.Proofs.Ytbnjcebmnamfjaa.Help Go.Proofs.YtbnjcebmnamfjaaW.PrintWords
set_option linter.unusedVariables false
set_option linter.unusedSimpArgs false

/-- The slopes with one Q, from a P on. -/
def rowS : Nat → Int → Int → List S25
  | 0, _, _ => []
  | n + 1, p, q => if isS p q = true then ⟨p, q⟩ :: rowS n (p + 1) q else rowS n (p + 1) q
theorem rowS_len : ∀ n p q, (rowS n p q).length ≤ n
  | 0, _, _ => by simp [rowS]
  | n + 1, p, q => by
    have := rowS_len n (p + 1) q
    rw [rowS]
    split
    · rw [List.length_cons]; omega
    · omega
def allS (most : Int) : Nat → Int → List S25
  | 0, _ => []
  | n + 1, q => rowS (2 * most + 1).toNat (-most) q ++ allS most n (q + 1)
theorem allS_len (most : Int) (h : 0 ≤ most ∧ most ≤ 100) : ∀ n q, (allS most n q).length ≤ 201 * n
  | 0, _ => by simp [allS]
  | n + 1, q => by
    have := allS_len most h n (q + 1)
    have := rowS_len (2 * most + 1).toNat (-most) q
    rw [allS, List.length_append]
    omega
theorem spec_all_l1 (most : Int) (hm : 0 ≤ most ∧ most ≤ 100) (q : Int) (hq : 0 ≤ q ∧ q ≤ 100) : ∀ (d k : Nat) (p : Int) (o : List S25), p + d = most + 1 → -most ≤ p → d + 1002 < k → o.length + d ≤ 1000000 → spec_l14All.l1 k most o q p = spec_l14All.l0 (k - d - 1) most (o ++ rowS d p q) (q + 1) := by
  intro d
  induction d with
  | zero =>
    intro k p o hp hp0 hk ho
    obtain ⟨k, rfl⟩ : ∃ m, k = m + 1 := ⟨k - 1, by omega⟩
    conv => lhs; unfold spec_l14All.l1
    rw [if_neg (by omega), w_id (by omega) (by omega)]
    simp [rowS]
  | succ d ih =>
    intro k p o hp hp0 hk ho
    obtain ⟨k, rfl⟩ : ∃ m, k = m + 1 := ⟨k - 1, by omega⟩
    conv => lhs; unfold spec_l14All.l1
    rw [if_pos (by omega), spec_isS _ _ k (by omega), Option.bind_some, w_id (by omega) (by omega), rowS, show k + 1 - (d + 1) - 1 = k - d - 1 by omega]
    by_cases h : isS p q = true
    · rw [if_pos h, if_pos h, if_pos (by omega), ih k (p + 1) _ (by omega) (by omega) (by omega) (by simp; omega), List.append_assoc]
      rfl
    · rw [if_neg h, if_neg h, ih k (p + 1) o (by omega) (by omega) (by omega) (by omega)]
theorem spec_all_l0 (most : Int) (hm : 0 ≤ most ∧ most ≤ 100) : ∀ (d k : Nat) (q : Int) (o : List S25), q + d = most + 1 → 0 ≤ q → 210 * d + 1300 < k → o.length + 201 * d ≤ 1000000 → spec_l14All.l0 k most o q = some (o ++ allS most d q) := by
  intro d
  induction d with
  | zero =>
    intro k q o hq hq0 hk ho
    obtain ⟨k, rfl⟩ : ∃ m, k = m + 1 := ⟨k - 1, by omega⟩
    conv => lhs; unfold spec_l14All.l0
    rw [if_neg (by omega)]
    simp [allS]
  | succ d ih =>
    intro k q o hq hq0 hk ho
    obtain ⟨k, rfl⟩ : ∃ m, k = m + 1 := ⟨k - 1, by omega⟩
    have hl := rowS_len (2 * most + 1).toNat (-most) q
    conv => lhs; unfold spec_l14All.l0
    rw [if_pos (by omega), w_id (by omega) (by omega), spec_all_l1 most hm q (by omega) (2 * most + 1).toNat k (-most) o (by omega) (by omega) (by omega) (by omega), ih _ (q + 1) _ (by omega) (by omega) (by omega) (by rw [List.length_append]; omega), allS, List.append_assoc]
def allR (most : Int) : List S25 := allS most (most + 1).toNat 0
theorem spec_all (most : Int) (hm : 0 ≤ most ∧ most ≤ 100) (k : Nat) (hk : 25000 < k) : spec_l14All.f k most = some (allR most) := by
  unfold spec_l14All.f allR
  have := spec_all_l0 most hm (most + 1).toNat k 0 [] (by omega) (by omega) (by omega) (by simp; omega)
  rw [List.nil_append] at this
  exact this
theorem allR_len (most : Int) (hm : 0 ≤ most ∧ most ≤ 100) : (allR most).length ≤ 21000 := by
  have := allS_len most hm (most + 1).toNat 0
  unfold allR
  omega
end Go.Proofs.Ytbnjcebmnamfjaa.L
