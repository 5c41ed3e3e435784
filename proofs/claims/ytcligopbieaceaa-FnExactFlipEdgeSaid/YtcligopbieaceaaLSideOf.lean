/- The letters of a triangulation by triangle and place: every letter and its inverse stands somewhere, and sideAt finds it. -/
import Derived.Test.YtcligopbieaceaaPx0
import Derived.Test.YtcligopbieaceaaLSide
namespace Go.Proofs.Ytcligopbieaceaa.L
open Go.RowKit Go.Proofs.Ytcligopbieaceaa.P Go.Proofs.Ytcligopbieaceaa.Help Go.Proofs.YtcligopbieaceaaW.PrintWords
set_option linter.unusedVariables false
set_option linter.unusedSimpArgs false

theorem getD_at {α : Type} {l : List α} (d : α) {i : Nat} (h : i < l.length) : l.getD i d = l[i] := by
  rw [List.getD_eq_getElem?_getD, List.getElem?_eq_getElem h, Option.getD_some]
/-- The letter of a side, the sides counted on from the last to the first. -/
def sideOf (t : List (List Int)) (i : Nat) (j : Nat) : Int := (t.getD i []).getD (j % 3) 0
theorem sideOf_in {t : List (List Int)} {n : Int} (ok : TriOk t n) {i : Nat} (hi : i < t.length) (j : Nat) : sideOf t i j ≠ 0 ∧ -n ≤ sideOf t i j ∧ sideOf t i j ≤ n := by
  have h3 := ok.three hi
  have hj : j % 3 < t[i].length := by omega
  have := ok.at hi hj
  unfold sideOf
  rw [getD_at _ hi, getD_at _ hj]
  exact this
theorem sideOf_eq {t : List (List Int)} {i : Nat} (hi : i < t.length) {a b c : Int} (e : t[i] = [a, b, c]) : sideOf t i 0 = a ∧ sideOf t i 1 = b ∧ sideOf t i 2 = c ∧ sideOf t i 3 = a ∧ sideOf t i 4 = b := by
  unfold sideOf
  rw [getD_at _ hi, e]
  exact ⟨rfl, rfl, rfl, rfl, rfl⟩
theorem flat3 : ∀ {t : List (List Int)}, (∀ r ∈ t, r.length = 3) → t.flatten.length = 3 * t.length
  | [], _ => rfl
  | r :: rs, h => by
    rw [List.flatten_cons, List.length_append, h r List.mem_cons_self, flat3 (fun x hx => h x (List.mem_cons_of_mem _ hx)), List.length_cons]
    omega
/-- All letters and inverses. -/
def letters (n : Nat) : List Int := (List.range n).map (fun (k : Nat) => (k : Int) + 1) ++ (List.range n).map (fun (k : Nat) => -(k : Int) - 1)
theorem mem_letters {n : Nat} {x : Int} (h0 : x ≠ 0) (h1 : -(n : Int) ≤ x) (h2 : x ≤ n) : x ∈ letters n := by
  unfold letters
  rw [List.mem_append, List.mem_map, List.mem_map]
  by_cases h : 0 < x
  · exact .inl ⟨(x - 1).toNat, List.mem_range.2 (by omega), by omega⟩
  · exact .inr ⟨(-x - 1).toNat, List.mem_range.2 (by omega), by omega⟩
theorem TriOk.all {t : List (List Int)} {n : Int} (ok : TriOk t n) {x : Int} (h0 : x ≠ 0) (h1 : -n ≤ x) (h2 : x ≤ n) : x ∈ t.flatten := by
  apply Classical.byContradiction
  intro hc
  have n3 := ok.n3
  obtain ⟨m, rfl⟩ : ∃ m : Nat, n = m := ⟨n.toNat, by omega⟩
  have hx := mem_letters h0 h1 h2
  have hs : ∀ y, y ∈ t.flatten → y ∈ (letters m).erase x := by
    intro y hy
    have hb := ok.inr y hy
    exact (List.mem_erase_of_ne (fun e => hc (by rw [← e]; exact hy))).2 (mem_letters hb.1 hb.2.1 hb.2.2)
  have hl := List.Nodup.length_le_of_subset ok.nodup hs
  rw [List.length_erase_of_mem hx, flat3 ok.row] at hl
  have : (letters m).length = 2 * m := by unfold letters; simp; omega
  have := ok.len
  omega
theorem sideR_at (x : Int) : ∀ (rs : List (List Int)) (b : Int), 0 ≤ b → x ∈ rs.flatten → ∃ i j : Nat, i < rs.length ∧ ∃ h : i < rs.length, j < rs[i].length ∧ rs[i][j]? = some x ∧ sideR x rs b = (b + i, (j : Int))
  | [], b, _, h => absurd h (by simp)
  | r :: rs, b, hb, h => by
    rw [sideR]
    by_cases hr : 0 ≤ idx x r 0
    · have h1 := idx_at x r 0 (by omega) hr
      have h2 := idx_bd x r 0 (by omega)
      rw [if_pos hr]
      refine ⟨0, (idx x r 0).toNat, by simp, by simp, ?_, ?_, ?_⟩
      · show (idx x r 0).toNat < r.length
        omega
      · show r[(idx x r 0).toNat]? = some x
        rw [Int.sub_zero] at h1
        exact h1
      · have e : ((idx x r 0).toNat : Int) = idx x r 0 := by omega
        rw [e]
        simp
    · rw [if_neg hr]
      rw [List.flatten_cons, List.mem_append] at h
      rcases h with h | h
      · have := idx_hit x r 0 (by omega) h
        exact absurd this.1 hr
      · obtain ⟨i, j, hi, hi', hj, he, hs⟩ := sideR_at x rs (b + 1) (by omega) h
        refine ⟨i + 1, j, by simpa using hi, by simpa using hi, ?_, ?_, ?_⟩
        · simpa using hj
        · simpa using he
        · rw [hs]
          refine Prod.ext ?_ rfl
          show b + 1 + (i : Int) = b + ((i + 1 : Nat) : Int)
          omega
/-- Where a letter stands. -/
theorem TriOk.side {t : List (List Int)} {n : Int} (ok : TriOk t n) {x : Int} (h0 : x ≠ 0) (h1 : -n ≤ x) (h2 : x ≤ n) : ∃ i j : Nat, i < t.length ∧ j < 3 ∧ sideR x t 0 = ((i : Int), (j : Int)) ∧ sideOf t i j = x := by
  obtain ⟨i, j, hi, _, hj, he, hs⟩ := sideR_at x t 0 (by omega) (ok.all h0 h1 h2)
  have h3 := ok.three hi
  refine ⟨i, j, hi, by omega, by rw [hs, Int.zero_add], ?_⟩
  unfold sideOf
  rw [getD_at _ hi, List.getD_eq_getElem?_getD, Nat.mod_eq_of_lt (by omega), he]
  rfl
theorem rd_side {t : List (List Int)} {n : Int} (ok : TriOk t n) {i : Nat} (hi : i < t.length) (j : Nat) : rd (rd_L1 t (i : Int)) (Int.tmod (j : Int) 3) = sideOf t i j := by
  have h3 := ok.three hi
  rw [rdL_nat t i hi, Int.tmod_eq_emod_of_nonneg (by omega), show ((j : Int) % 3) = ((j % 3 : Nat) : Int) by omega, rd_nat _ _ (by omega)]
  unfold sideOf
  rw [getD_at _ hi, getD_at _ (by omega)]
end Go.Proofs.Ytcligopbieaceaa.L
