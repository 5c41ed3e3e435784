/- What turn computes of a row of three, and what FlipEdge computes in the program and in the reference; no condition but the number of rounds and the lengths. -/
import Derived.Test.YtcligopbieaceaaPx0
import Derived.Test.YtcligopbieaceaaPx13
import Derived.Test.YtcligopbieaceaaPx42
import Derived.Test.YtcligopbieaceaaPx43
import Derived.Test.YtcligopbieaceaaLSideOf
import Derived.Test.YtcligopbieaceaaLCopy
namespace Go.Proofs.Ytcligopbieaceaa.L
open Go.RowKit Go.Proofs.Ytcligopbieaceaa.P Go.Proofs.Ytcligopbieaceaa.Help Go.Proofs.YtcligopbieaceaaW.PrintWords
set_option linter.unusedVariables false
set_option linter.unusedSimpArgs false

theorem turn3 (a b c : Int) (j : Nat) (hj : j < 3) : impl_turn.f [a, b, c] (j : Int) = some [[a, b, c].getD (j % 3) 0, [a, b, c].getD ((j + 1) % 3) 0, [a, b, c].getD ((j + 2) % 3) 0] := by
  match j, hj with
  | 0, _ => rfl
  | 1, _ => rfl
  | 2, _ => rfl
theorem turn_side {t : List (List Int)} {n : Int} (ok : TriOk t n) {i : Nat} (hi : i < t.length) (j : Nat) (hj : j < 3) : impl_turn.f (rd_L1 t (i : Int)) (j : Int) = some [sideOf t i j, sideOf t i (j + 1), sideOf t i (j + 2)] := by
  obtain ⟨a, b, c, e, _⟩ := ok.i64 (List.getElem_mem hi)
  rw [rdL_nat t i hi, e, turn3 a b c j hj]
  unfold sideOf
  rw [getD_at _ hi, e]
theorem w_nat {a : Int} {m : Nat} (h : a = (m : Int)) (hm : m ≤ 1000) : wrap64 a = (m : Int) := by
  rw [h]
  exact w_id (by omega) (by omega)
theorem w12 {j : Nat} (hj : j < 3) : wrap64 ((j : Int) + 1) = ((j + 1 : Nat) : Int) ∧ wrap64 ((j : Int) + 2) = ((j + 2 : Nat) : Int) := ⟨w_nat rfl (by omega), w_nat rfl (by omega)⟩
theorem len3 (a b c : Int) : 2 < (([a, b, c] : List Int).length : Int) ∧ 1 < (([a, b, c] : List Int).length : Int) := by
  have h : (([a, b, c] : List Int).length : Int) = 3 := rfl
  rw [h]
  exact ⟨by decide, by decide⟩
def flipE (t : List (List Int)) (e : Int) : List (List Int) × Bool :=
  if canR t e = true then
    (((t.set (sideR e t 0).1.toNat [e, sideOf t (sideR e t 0).1.toNat ((sideR e t 0).2.toNat + 2), sideOf t (sideR (-e) t 0).1.toNat ((sideR (-e) t 0).2.toNat + 1)]).set (sideR (-e) t 0).1.toNat
      [-e, sideOf t (sideR (-e) t 0).1.toNat ((sideR (-e) t 0).2.toNat + 2), sideOf t (sideR e t 0).1.toNat ((sideR e t 0).2.toNat + 1)]), true)
  else ([], false)
theorem canR_ok {t : List (List Int)} {e : Int} (ht : t.length ≤ 1048576) (h : canR t e = true) : TriOk t (edges t) ∧ 1 ≤ e ∧ e ≤ edges t := by
  unfold canR at h
  rw [Bool.and_eq_true] at h
  exact isE_bd ht h.1
set_option maxHeartbeats 2000000 in
theorem spec_flipE (t : List (List Int)) (ht : t.length ≤ 1048576) (hr : ∀ r ∈ t, r.length ≤ 1048576) (e : Int) (k : Nat) (hk : 6000002 < k) : spec_FlipEdge.f k t e = some (flipE t e) := by
  unfold spec_FlipEdge.f flipE
  rw [spec_can t ht e k (by omega), Option.bind_some]
  by_cases h : canR t e = true
  · obtain ⟨ok, h1, h2⟩ := canR_ok ht h
    have n9 := ok.n9
    obtain ⟨i, j, hi, hj, s1, s2⟩ := ok.side (x := e) (by omega) (by omega) (by omega)
    obtain ⟨o, a, ho, ha, s3, s4⟩ := ok.side (x := -e) (by omega) (by omega) (by omega)
    have l1 := ok.three hi
    have l2 := ok.three ho
    rw [if_pos h, if_pos h, find_f _ t ht ok.row k (by omega), Option.bind_some, w_id (a := -e) (by omega) (by omega), find_f _ t ht ok.row k (by omega), Option.bind_some, s1, s3]
    obtain ⟨w1, w2⟩ := w12 hj
    obtain ⟨w3, w4⟩ := w12 ha
    have t3 : ∀ m : Nat, 0 ≤ Int.tmod (m : Int) 3 ∧ Int.tmod (m : Int) 3 < 3 := fun m => by rw [Int.tmod_eq_emod_of_nonneg (by omega)]; omega
    have q1 : ((rd_L1 t (i : Int)).length : Int) = 3 := by rw [rdL_nat t i hi, l1]; rfl
    have q2 : ((rd_L1 t (o : Int)).length : Int) = 3 := by rw [rdL_nat t o ho, l2]; rfl
    dsimp only
    rw [w1, w2, w3, w4, q1, q2]
    rw [if_pos (show (0 : Int) ≤ (i : Int) from by omega)]
    rw [if_pos (show (i : Int) < (t.length : Int) from by omega)]
    rw [if_pos (t3 (j + 1)).1]
    rw [if_pos (t3 (j + 1)).2]
    rw [if_pos (t3 (j + 2)).1]
    rw [if_pos (t3 (j + 2)).2]
    rw [if_pos (show (0 : Int) ≤ (o : Int) from by omega)]
    rw [if_pos (show (o : Int) < (t.length : Int) from by omega)]
    rw [if_pos (t3 (a + 1)).1]
    rw [if_pos (t3 (a + 1)).2]
    rw [if_pos (t3 (a + 2)).1]
    rw [if_pos (t3 (a + 2)).2]
    rw [l5Copy_f t ht hr k (by omega), Option.bind_some]
    rw [if_pos (show (i : Int) < (t.length : Int) from by omega)]
    rw [if_pos (show (o : Int) < (t.length : Int) from by omega)]
    rw [rd_side ok hi, rd_side ok hi, rd_side ok ho, rd_side ok ho]
    simp only [Int.toNat_natCast]
  · rw [if_neg h, if_neg h]
set_option maxHeartbeats 2000000 in
theorem impl_flipE (t : List (List Int)) (ht : t.length ≤ 1048576) (hr : ∀ r ∈ t, r.length ≤ 1048576) (e : Int) (k : Nat) (hk : 6000002 < k) : impl_FlipEdge.f k t e = some (flipE t e) := by
  unfold impl_FlipEdge.f flipE
  rw [impl_can t ht hr e k (by omega), Option.bind_some]
  by_cases h : canR t e = true
  · obtain ⟨ok, h1, h2⟩ := canR_ok ht h
    have n9 := ok.n9
    obtain ⟨i, j, hi, hj, s1, s2⟩ := ok.side (x := e) (by omega) (by omega) (by omega)
    obtain ⟨o, a, ho, ha, s3, s4⟩ := ok.side (x := -e) (by omega) (by omega) (by omega)
    rw [if_pos h, if_pos h, sideAt_f _ t ht hr k (by omega), Option.bind_some, w_id (a := -e) (by omega) (by omega), sideAt_f _ t ht hr k (by omega), Option.bind_some, s1, s3]
    dsimp only
    rw [if_pos (by omega), if_pos (by omega), turn_side ok hi j hj, Option.bind_some, if_pos (by omega), if_pos (by omega), turn_side ok ho a ha, Option.bind_some, copyRows_f t ht hr k (by omega), Option.bind_some]
    rw [if_pos (len3 _ _ _).1, if_pos (len3 _ _ _).2, if_pos (show (i : Int) < (t.length : Int) from by omega), if_pos (len3 _ _ _).1, if_pos (len3 _ _ _).2, if_pos (show (o : Int) < (t.length : Int) from by omega)]
    simp only [Int.toNat_natCast]
    rfl
  · rw [if_neg h, if_neg h]
theorem tot3 : ∀ {t : List (List Int)}, (∀ r ∈ t, r.length = 3) → tot t = 3 * t.length
  | [], _ => rfl
  | r :: rs, h => by
    rw [tot, h r List.mem_cons_self, tot3 (fun x hx => h x (List.mem_cons_of_mem _ hx)), List.length_cons]
    omega
theorem flipE_rows (t : List (List Int)) (ht : t.length ≤ 1048576) (e : Int) : (flipE t e).1.length ≤ 6 ∧ ∀ r ∈ (flipE t e).1, r.length = 3 := by
  unfold flipE
  by_cases h : canR t e = true
  · obtain ⟨ok, _⟩ := canR_ok ht h
    have hs := ok.short
    rw [if_pos h]
    refine ⟨by show (List.set _ _ _).length ≤ _; rw [List.length_set, List.length_set]; omega, fun r hr => ?_⟩
    rcases List.mem_or_eq_of_mem_set hr with hr | hr
    · rcases List.mem_or_eq_of_mem_set hr with hr | hr
      · exact ok.row r hr
      · rw [hr]; rfl
    · rw [hr]; rfl
  · rw [if_neg h]
    simp
theorem flipE_bd (t : List (List Int)) (ht : t.length ≤ 1048576) (e : Int) : (flipE t e).1.length ≤ 1048576 ∧ (∀ r ∈ (flipE t e).1, r.length ≤ 1048576) ∧ tot (flipE t e).1 ≤ 2000000 := by
  obtain ⟨h1, h2⟩ := flipE_rows t ht e
  have := tot3 h2
  exact ⟨by omega, fun r hr => by have := h2 r hr; omega, by omega⟩
end Go.Proofs.Ytcligopbieaceaa.L
