/- What the program's and the reference's CurveOfSlope compute; no condition but the number of rounds. -/
import Derived.Test.YtbnjcebmnamfjaaPx0
import Derived.Test.YtbnjcebmnamfjaaPx4
import Derived.Test.YtbnjcebmnamfjaaPx22
import Derived.Test.YtbnjcebmnamfjaaPx40
import Derived.Test.YtbnjcebmnamfjaaPx41
import Derived.Test.YtbnjcebmnamfjaaLCross
import Derived.Test.YtbnjcebmnamfjaaLCoord
namespace Go.Proofs.Ytbnjcebmnamfjaa.L
open Go.RowKit Go.Proofs.Ytbnjcebmnamfjaa.P Go.Proofs.Ytbnjcebmnamfjaa.Help Go.Proofs.YtbnjcebmnamfjaaW.PrintWords
set_option linter.unusedVariables false
set_option linter.unusedSimpArgs false

/-- The coordinates of n parallel curves with a slope. -/
def curveS (p q n : Int) : List Int := [n * crossR p q 0 1, n * crossR p q 1 0, n * crossR p q 1 1]
theorem edge01 : isS 0 1 = true := by decide
theorem edge10 : isS 1 0 = true := by decide
theorem edge11 : isS 1 1 = true := by decide
theorem cross_bd {p q r s : Int} (h : isS p q = true) (h2 : isS r s = true) : 0 ≤ crossR p q r s ∧ crossR p q r s ≤ 2000000 := by
  obtain ⟨b1, b2, _⟩ := isS_true h
  obtain ⟨b3, b4, _⟩ := isS_true h2
  obtain ⟨e, e1, e2⟩ := cross_w b1 (q := q) (by omega) b3 (s := s) (by omega)
  unfold crossR
  rw [if_pos ⟨h, h2⟩]
  omega
theorem times_bd {n c : Int} (h1 : 0 ≤ n ∧ n ≤ 20) (h2 : 0 ≤ c ∧ c ≤ 2000000) : 0 ≤ n * c ∧ n * c ≤ 40000000 := by
  have h3 := mulb (a := n) (b := c) (A := 20) (B := 2000000) (by omega) (by omega) (by omega) (by omega)
  have h4 := Int.mul_nonneg h1.1 h2.1
  omega
def curveR (p q n : Int) : List Int × Bool := if (isS p q = true ∧ 0 ≤ n ∧ n ≤ 20) ∧ (curveS p q n).all co = true then (curveS p q n, true) else ([], false)
theorem curveR_len (p q n : Int) : (curveR p q n).1.length ≤ 3 := by
  unfold curveR
  split
  · simp [curveS]
  · simp
theorem curveR_no {p q n : Int} (h : ¬ ((isS p q = true ∧ 0 ≤ n ∧ n ≤ 20) ∧ (curveS p q n).all co = true)) : curveR p q n = ([], false) := by
  unfold curveR
  rw [if_neg h]
theorem curveR_yes {p q n : Int} (h : (isS p q = true ∧ 0 ≤ n ∧ n ≤ 20) ∧ (curveS p q n).all co = true) : curveR p q n = (curveS p q n, true) := by
  unfold curveR
  rw [if_pos h]
theorem curveS_all {p q n : Int} : (curveS p q n).all co = true ↔ (0 ≤ n * crossR p q 0 1 ∧ n * crossR p q 0 1 ≤ 200) ∧ (0 ≤ n * crossR p q 1 0 ∧ n * crossR p q 1 0 ≤ 200) ∧ (0 ≤ n * crossR p q 1 1 ∧ n * crossR p q 1 1 ≤ 200) := by
  unfold curveS co
  simp
theorem spec_curve (p q n : Int) (k : Nat) (hk : 1010 < k) : spec_CurveOfSlope.f k p q n = some (curveR p q n) := by
  obtain ⟨k, rfl⟩ : ∃ m, k = m + 5 := ⟨k - 5, by omega⟩
  unfold spec_CurveOfSlope.f
  rw [spec_isS _ _ _ (by omega), l1In_eq, Option.bind_some, Option.bind_some]
  by_cases h : isS p q = true
  · rw [if_pos h, show k + 5 = (k + 4) + 1 from rfl]
    conv => lhs; unfold spec_CurveOfSlope.j0; dsimp only
    by_cases h2 : 0 ≤ n ∧ n ≤ 20
    · have c1 := times_bd h2 (cross_bd h edge01)
      have c2 := times_bd h2 (cross_bd h edge10)
      have c3 := times_bd h2 (cross_bd h edge11)
      rw [if_neg (by simp; omega), show k + 4 = (k + 3) + 1 from rfl]
      conv => lhs; unfold spec_CurveOfSlope.l0
      rw [if_pos (by decide)]
      unfold spec_l17Edge.f
      simp only [if_true, Option.bind_some]
      rw [spec_cross _ _ _ _ _ (by omega), Option.bind_some, w_id (a := n * crossR p q 0 1) (by omega) (by omega)]
      by_cases g1 : n * crossR p q 0 1 > 200
      · rw [if_pos g1, curveR_no (fun h => by have := (curveS_all.1 h.2).1; omega)]
      · rw [if_neg g1, if_pos (by decide), show wrap64 (1 + 1) = 2 by decide +kernel, show k + 3 = (k + 2) + 1 from rfl]
        conv => lhs; unfold spec_CurveOfSlope.l0
        rw [if_pos (by decide)]
        unfold spec_l17Edge.f
        rw [if_neg (by decide), if_pos rfl]
        simp only [Option.bind_some]
        rw [spec_cross _ _ _ _ _ (by omega), Option.bind_some, w_id (a := n * crossR p q 1 0) (by omega) (by omega)]
        by_cases g2 : n * crossR p q 1 0 > 200
        · rw [if_pos g2, curveR_no (fun h => by have := (curveS_all.1 h.2).2.1; omega)]
        · rw [if_neg g2, if_pos (by simp), show wrap64 (2 + 1) = 3 by decide +kernel, show k + 2 = (k + 1) + 1 from rfl]
          conv => lhs; unfold spec_CurveOfSlope.l0
          rw [if_pos (by decide)]
          unfold spec_l17Edge.f
          rw [if_neg (by decide), if_neg (by decide)]
          simp only [Option.bind_some]
          rw [spec_cross _ _ _ _ _ (by omega), Option.bind_some, w_id (a := n * crossR p q 1 1) (by omega) (by omega)]
          by_cases g3 : n * crossR p q 1 1 > 200
          · rw [if_pos g3, curveR_no (fun h => by have := (curveS_all.1 h.2).2.2; omega)]
          · rw [if_neg g3, if_pos (by simp), show wrap64 (3 + 1) = 4 by decide +kernel]
            conv => lhs; unfold spec_CurveOfSlope.l0
            rw [if_neg (by decide), curveR_yes ⟨⟨h, h2⟩, curveS_all.2 (by omega)⟩]
            rfl
    · rw [if_pos (by simp; omega), curveR_no (fun h => h2 h.1.2)]
  · rw [if_neg h, show k + 5 = (k + 4) + 1 from rfl, curveR_no (fun h' => h h'.1.1)]
    conv => lhs; unfold spec_CurveOfSlope.j0; dsimp only
    rw [if_pos rfl]
theorem cross_raw {p q r s : Int} (h : isS p q = true) (h2 : isS r s = true) : impl_cross.f p q r s = some (crossR p q r s) := by
  obtain ⟨b1, b2, _⟩ := isS_true h
  obtain ⟨b3, b4, _⟩ := isS_true h2
  rw [impl_cross_eq b1 (by omega) b3 (by omega)]
  unfold crossR
  rw [if_pos ⟨h, h2⟩]
theorem impl_curve (p q n : Int) (k : Nat) (hk : 1010 < k) : impl_CurveOfSlope.f k p q n = some (curveR p q n) := by
  obtain ⟨k, rfl⟩ : ∃ m, k = m + 5 := ⟨k - 5, by omega⟩
  unfold impl_CurveOfSlope.f
  rw [impl_isS _ _ _ (by omega), within_eq, Option.bind_some, Option.bind_some]
  by_cases h : isS p q = true
  · rw [if_pos h, show k + 5 = (k + 4) + 1 from rfl]
    conv => lhs; unfold impl_CurveOfSlope.j0; dsimp only
    by_cases h2 : 0 ≤ n ∧ n ≤ 20
    · have c1 := times_bd h2 (cross_bd h edge01)
      have c2 := times_bd h2 (cross_bd h edge10)
      have c3 := times_bd h2 (cross_bd h edge11)
      unfold impl_edgeSlopes.f
      rw [if_neg (by simp; omega), Option.bind_some, show k + 4 = (k + 3) + 1 from rfl]
      simp only [List.length_cons, List.length_nil]
      conv => lhs; unfold impl_CurveOfSlope.l0
      rw [if_pos (by decide), if_pos (by decide), if_pos (by decide)]
      rw [show rd_T25 [(⟨0, 1⟩ : S25), ⟨1, 0⟩, ⟨1, 1⟩] 0 = ⟨0, 1⟩ from rfl]
      simp only
      rw [cross_raw h edge01, Option.bind_some, if_pos (by decide), w_id (a := n * crossR p q 0 1) (by omega) (by omega), show wrap64 (0 + 1) = 1 by decide +kernel, show k + 3 = (k + 2) + 1 from rfl]
      conv => lhs; unfold impl_CurveOfSlope.l0
      rw [if_pos (by decide), if_pos (by decide), if_pos (by decide)]
      rw [show rd_T25 [(⟨0, 1⟩ : S25), ⟨1, 0⟩, ⟨1, 1⟩] 1 = ⟨1, 0⟩ from rfl]
      simp only
      rw [cross_raw h edge10, Option.bind_some, if_pos (by simp), w_id (a := n * crossR p q 1 0) (by omega) (by omega), show wrap64 (1 + 1) = 2 by decide +kernel, show k + 2 = (k + 1) + 1 from rfl]
      conv => lhs; unfold impl_CurveOfSlope.l0
      rw [if_pos (by decide), if_pos (by decide), if_pos (by decide)]
      rw [show rd_T25 [(⟨0, 1⟩ : S25), ⟨1, 0⟩, ⟨1, 1⟩] 2 = ⟨1, 1⟩ from rfl]
      simp only
      rw [cross_raw h edge11, Option.bind_some, if_pos (by simp), w_id (a := n * crossR p q 1 1) (by omega) (by omega), show wrap64 (2 + 1) = 3 by decide +kernel]
      conv => lhs; unfold impl_CurveOfSlope.l0
      rw [if_neg (by decide), areCo _ (by simp) k (by simp; omega), Option.bind_some]
      rw [show ([] ++ [n * crossR p q 0 1] ++ [n * crossR p q 1 0] ++ [n * crossR p q 1 1]) = curveS p q n from rfl]
      by_cases hc : (curveS p q n).all co = true
      · rw [if_pos hc, curveR_yes ⟨⟨h, h2⟩, hc⟩]
      · rw [if_neg hc, curveR_no (fun h => hc h.2)]
    · rw [if_pos (by simp; omega), curveR_no (fun h => h2 h.1.2)]
  · rw [if_neg h, show k + 5 = (k + 4) + 1 from rfl, curveR_no (fun h' => h h'.1.1)]
    conv => lhs; unfold impl_CurveOfSlope.j0; dsimp only
    rw [if_pos rfl]
end Go.Proofs.Ytbnjcebmnamfjaa.L
