/- How many arcs are around a corner: what arcs and ArcsAt compute; no condition but the number of rounds and the lengths. -/
import Derived.Test.YtcligopbieaceaaPx0
import Derived.Test.YtcligopbieaceaaPx16
import Derived.Test.YtcligopbieaceaaPx33
import Derived.Test.YtcligopbieaceaaLFair
namespace Go.Proofs.Ytcligopbieaceaa.L
open Go.RowKit Go.Proofs.Ytcligopbieaceaa.P Go.Proofs.Ytcligopbieaceaa.Help Go.Proofs.YtcligopbieaceaaW.PrintWords
set_option linter.unusedVariables false
set_option linter.unusedSimpArgs false

theorem getD_at {α : Type} {l : List α} (d : α) {i : Nat} (h : i < l.length) : l.getD i d = l[i] := by
  rw [List.getD_eq_getElem?_getD, List.getElem?_eq_getElem h, Option.getD_some]
/-- The letter of a side, the sides counted on from the last to the first. -/
def sideOf (t : List (List Int)) (i : Nat) (j : Nat) : Int := (t.getD i []).getD (j % 3) 0
/-- The arcs at a corner, twice. -/
def tw (t : List (List Int)) (x : List Int) (i j : Nat) : Int := crd x (sideOf t i j) + crd x (sideOf t i (j + 1)) - crd x (sideOf t i (j + 2))
theorem isF_ok {t : List (List Int)} {x : List Int} (ht : t.length ≤ 1048576) (h : isF t x = true) : TriOk t (edges t) ∧ (x.length : Int) = edges t ∧ x.all co = true ∧ ∀ r ∈ t, fairRow x r = true := by
  unfold isF at h
  rw [Bool.and_eq_true, Bool.and_eq_true, Bool.and_eq_true, decide_eq_true_iff] at h
  exact ⟨isT_ok ht h.1, h.2.1, h.2.2.1, fun r hr => List.all_eq_true.1 h.2.2.2 r hr⟩
theorem sideOf_in {t : List (List Int)} {n : Int} (ok : TriOk t n) {i : Nat} (hi : i < t.length) (j : Nat) : sideOf t i j ≠ 0 ∧ -n ≤ sideOf t i j ∧ sideOf t i j ≤ n := by
  have h3 := ok.three hi
  have hj : j % 3 < t[i].length := by omega
  have := ok.at hi hj
  unfold sideOf
  rw [getD_at _ hi, getD_at _ hj]
  exact this
theorem sideOf_eq {t : List (List Int)} {i : Nat} (hi : i < t.length) {a b c : Int} (e : t[i] = [a, b, c]) : sideOf t i 0 = a ∧ sideOf t i 1 = b ∧ sideOf t i 2 = c ∧ sideOf t i 3 = a ∧ sideOf t i 4 = b := by
  unfold sideOf
  rw [getD_at _ hi, e]
  exact ⟨rfl, rfl, rfl, rfl, rfl⟩
theorem tw_even {t : List (List Int)} {x : List Int} {n : Int} (ok : TriOk t n) (hc : x.all co = true) {i : Nat} (hi : i < t.length) (hf : fairRow x t[i] = true) (j : Nat) (hj : j < 3) : 0 ≤ tw t x i j ∧ tw t x i j ≤ 400 ∧ tw t x i j % 2 = 0 := by
  obtain ⟨a, b, c, e, _⟩ := ok.i64 (List.getElem_mem hi)
  have A := crd_bd hc a
  have B := crd_bd hc b
  have C := crd_bd hc c
  have hf2 : decide ((crd x a + crd x b + crd x c) % 2 = 0 ∧ crd x a ≤ crd x b + crd x c ∧ crd x b ≤ crd x a + crd x c ∧ crd x c ≤ crd x a + crd x b) = true := by rw [e] at hf; exact hf
  rw [decide_eq_true_iff] at hf2
  obtain ⟨s0, s1, s2, s3, s4⟩ := sideOf_eq hi e
  unfold tw
  match j, hj with
  | 0, _ => rw [s0, s1, s2]; omega
  | 1, _ => rw [s1, s2, s3]; omega
  | 2, _ => rw [s2, s3, s4]; omega
theorem twice_tw {t : List (List Int)} {n : Int} (ok : TriOk t n) {x : List Int} (hx : (x.length : Int) = n) (hc : x.all co = true) {i : Nat} (hi : i < t.length) (j : Nat) (hj : j < 3) : spec_l15Twice.f t x (i : Int) (j : Int) = some (tw t x i j) := by
  obtain ⟨a, b, c, e, _⟩ := ok.i64 (List.getElem_mem hi)
  obtain ⟨h0, h1, h2⟩ := twice_eq ok hx hc hi e
  obtain ⟨s0, s1, s2, s3, s4⟩ := sideOf_eq hi e
  unfold tw
  match j, hj with
  | 0, _ => rw [s0, s1, s2]; exact h0
  | 1, _ => rw [s1, s2, s3]; exact h1
  | 2, _ => rw [s2, s3, s4]; exact h2
theorem arcsAt_eq {t : List (List Int)} {n : Int} (ok : TriOk t n) {x : List Int} (hx : (x.length : Int) = n) {i : Nat} (hi : i < t.length) (j : Nat) (hj : j < 1000) : arcsAt.f t x (i : Int) (j : Int) = some (crd x (sideOf t i j)) := by
  have n9 := ok.n9
  have h3 := ok.three hi
  have hjl : j % 3 < t[i].length := by omega
  have hs := sideOf_in ok hi j
  have e : rd (rd_L1 t (i : Int)) (Int.tmod (j : Int) 3) = sideOf t i j := by
    rw [rdL_nat t i hi, Int.tmod_eq_emod_of_nonneg (by omega), show ((j : Int) % 3) = ((j % 3 : Nat) : Int) by omega, rd_nat _ _ hjl]
    unfold sideOf
    rw [getD_at _ hi, getD_at _ hjl]
  unfold arcsAt.f
  rw [if_pos (by omega), if_pos (by omega), if_pos (by rw [Int.tmod_eq_emod_of_nonneg (by omega)]; omega), if_pos (by rw [rdL_nat t i hi, Int.tmod_eq_emod_of_nonneg (by omega)]; omega), e, size_eq (by omega) (by omega), Option.bind_some, w_id (by omega) (by omega), if_pos (by omega), if_pos (by omega)]
  rfl
theorem arcs_eq {t : List (List Int)} {n : Int} (ok : TriOk t n) {x : List Int} (hx : (x.length : Int) = n) (hc : x.all co = true) {i : Nat} (hi : i < t.length) (hf : fairRow x t[i] = true) (j : Nat) (hj : j < 3) : impl_arcs.f t x (i : Int) (j : Int) = some (tw t x i j / 2) := by
  have hb := tw_even ok hc hi hf j hj
  have A := crd_bd hc (sideOf t i j)
  have B := crd_bd hc (sideOf t i (j + 1))
  have C := crd_bd hc (sideOf t i (j + 2))
  unfold impl_arcs.f
  rw [arcsAt_eq ok hx hi j (by omega), Option.bind_some, w_id (a := (j : Int) + 1) (by omega) (by omega), show ((j : Int) + 1) = ((j + 1 : Nat) : Int) by omega, arcsAt_eq ok hx hi (j + 1) (by omega), Option.bind_some, w_id (a := (j : Int) + 2) (by omega) (by omega), show ((j : Int) + 2) = ((j + 2 : Nat) : Int) by omega, arcsAt_eq ok hx hi (j + 2) (by omega), Option.bind_some]
  unfold tw at hb ⊢
  rw [w_id (a := crd x (sideOf t i j) + crd x (sideOf t i (j + 1))) (by omega) (by omega), w_id (a := crd x (sideOf t i j) + crd x (sideOf t i (j + 1)) - crd x (sideOf t i (j + 2))) (by omega) (by omega), Int.tdiv_eq_ediv_of_nonneg (by omega), w_id (by omega) (by omega)]
/-- The arcs around a corner. -/
def arcsR (t : List (List Int)) (x : List Int) (i j : Int) : Int := if isF t x = true ∧ (0 ≤ i ∧ i ≤ t.length - 1) ∧ (0 ≤ j ∧ j ≤ 2) then tw t x i.toNat j.toNat / 2 else -1
theorem spec_arcsR (t : List (List Int)) (ht : t.length ≤ 1048576) (x : List Int) (i j : Int) (k : Nat) (hk : 6000001 < k) : spec_ArcsAt.f k t x i j = some (arcsR t x i j) := by
  unfold spec_ArcsAt.f arcsR
  rw [spec_fair t ht x k hk, Option.bind_some]
  by_cases h : isF t x = true
  · obtain ⟨ok, hx, hc, hf⟩ := isF_ok ht h
    rw [if_pos h, l1In_eq, Option.bind_some, w_id (by omega) (by omega)]
    by_cases h2 : 0 ≤ i ∧ i ≤ t.length - 1
    · rw [if_pos (by simpa using h2), l1In_eq, Option.bind_some]
      by_cases h3 : 0 ≤ j ∧ j ≤ 2
      · obtain ⟨p, rfl⟩ : ∃ p : Nat, i = p := ⟨i.toNat, by omega⟩
        obtain ⟨q, rfl⟩ : ∃ q : Nat, j = q := ⟨j.toNat, by omega⟩
        have hp : p < t.length := by omega
        have hb := tw_even ok hc hp (hf _ (List.getElem_mem hp)) q (by omega)
        rw [if_pos (by simpa using h3), twice_tw ok hx hc hp q (by omega), Option.bind_some, if_pos ⟨h, h2, h3⟩, Int.toNat_natCast, Int.toNat_natCast, Int.tdiv_eq_ediv_of_nonneg (by omega), w_id (by omega) (by omega)]
      · rw [if_neg (by simpa using h3), if_neg (fun h => h3 h.2.2)]
    · rw [if_neg (by simpa using h2), if_neg (fun h => h2 h.2.1)]
  · rw [if_neg h, if_neg (fun h' => h h'.1)]
theorem impl_arcsR (t : List (List Int)) (ht : t.length ≤ 1048576) (x : List Int) (i j : Int) (k : Nat) (hk : 6000001 < k) : impl_ArcsAt.f k t x i j = some (arcsR t x i j) := by
  unfold impl_ArcsAt.f arcsR
  rw [impl_fair t ht x k hk, Option.bind_some]
  by_cases h : isF t x = true
  · obtain ⟨ok, hx, hc, hf⟩ := isF_ok ht h
    rw [if_pos h, within_eq, Option.bind_some, w_id (by omega) (by omega)]
    by_cases h2 : 0 ≤ i ∧ i ≤ t.length - 1
    · rw [if_pos (by simpa using h2), within_eq, Option.bind_some]
      by_cases h3 : 0 ≤ j ∧ j ≤ 2
      · obtain ⟨p, rfl⟩ : ∃ p : Nat, i = p := ⟨i.toNat, by omega⟩
        obtain ⟨q, rfl⟩ : ∃ q : Nat, j = q := ⟨j.toNat, by omega⟩
        have hp : p < t.length := by omega
        rw [if_pos (by simpa using h3), arcs_eq ok hx hc hp (hf _ (List.getElem_mem hp)) q (by omega), Option.bind_some, if_pos ⟨h, h2, h3⟩, Int.toNat_natCast, Int.toNat_natCast]
      · rw [if_neg (by simpa using h3), if_neg (fun h => h3 h.2.2)]
    · rw [if_neg (by simpa using h2), if_neg (fun h => h2 h.2.1)]
  · rw [if_neg h, if_neg (fun h' => h h'.1)]
end Go.Proofs.Ytcligopbieaceaa.L
