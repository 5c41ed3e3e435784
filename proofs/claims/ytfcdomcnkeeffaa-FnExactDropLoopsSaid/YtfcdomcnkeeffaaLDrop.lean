/- What the program's and the reference's DropCrossing compute; no condition but the number of rounds and the length. -/
import Derived.Test.YtfcdomcnkeeffaaPx14
import Derived.Test.YtfcdomcnkeeffaaPx22
import Derived.Test.YtfcdomcnkeeffaaLPlaces
namespace Go.Proofs.Ytfcdomcnkeeffaa.L
open Go.RowKit Go.Proofs.Ytfcdomcnkeeffaa.P Go.Proofs.Ytfcdomcnkeeffaa.Help Go.Proofs.YtfcdomcnkeeffaaW.PrintWords
set_option linter.unusedVariables false
set_option linter.unusedSimpArgs false

/-- A word without a letter. -/
def without (w : List Int) (x : Int) : List Int := w.filter (fun y => decide (y ≠ x))
theorem without_eq (y : Int) (ys : List Int) (x : Int) (h : y = x) : without (y :: ys) x = without ys x := by
  unfold without
  rw [List.filter_cons, if_neg (by simpa using h)]
theorem without_ne (y : Int) (ys : List Int) (x : Int) (h : y ≠ x) : without (y :: ys) x = y :: without ys x := by
  unfold without
  rw [List.filter_cons, if_pos (by simpa using h)]
theorem spec_drop_l0 (w : List Int) (hx : w.length ≤ 1000000000) (x : Int) : ∀ (d k i : Nat) (o : List Int), i + d = w.length → d < k → o.length ≤ i → spec_l18Drop.l0 k w x o (i : Int) = some (o ++ without (w.drop i) x) := by
  intro d
  induction d with
  | zero =>
    intro k i o hi hk ho
    obtain ⟨k, rfl⟩ : ∃ m, k = m + 1 := ⟨k - 1, by omega⟩
    simp only [spec_l18Drop.l0]
    rw [if_neg (by omega), List.drop_of_length_le (by omega)]
    simp [without]
  | succ d ih =>
    intro k i o hi hk ho
    obtain ⟨k, rfl⟩ : ∃ m, k = m + 1 := ⟨k - 1, by omega⟩
    have hlt : i < w.length := by omega
    simp only [spec_l18Drop.l0]
    rw [if_pos (by omega), if_pos (by omega), rd_nat w i hlt, List.drop_eq_getElem_cons hlt, w_id (by omega) (by omega), show ((i : Int) + 1) = ((i + 1 : Nat) : Int) by omega]
    by_cases h : w[i] = x
    · rw [if_pos h, ih k (i + 1) o (by omega) (by omega) (by omega), without_eq _ _ _ h]
    · rw [if_neg h, if_pos (by omega), ih k (i + 1) _ (by omega) (by omega) (by simp; omega), without_ne _ _ _ h, List.append_assoc]
      rfl
theorem impl_drop_l0 (w : List Int) (hx : w.length ≤ 1000000000) (x : Int) : ∀ (d k i : Nat) (o : List Int), i + d = w.length → d < k → o.length ≤ i → impl_DropCrossing.l0 k x o w (w.length : Int) (i : Int) = some (o ++ without (w.drop i) x, true) := by
  intro d
  induction d with
  | zero =>
    intro k i o hi hk ho
    obtain ⟨k, rfl⟩ : ∃ m, k = m + 1 := ⟨k - 1, by omega⟩
    simp only [impl_DropCrossing.l0]
    rw [if_neg (by omega), List.drop_of_length_le (by omega)]
    simp [without]
  | succ d ih =>
    intro k i o hi hk ho
    obtain ⟨k, rfl⟩ : ∃ m, k = m + 1 := ⟨k - 1, by omega⟩
    have hlt : i < w.length := by omega
    simp only [impl_DropCrossing.l0]
    rw [if_pos (by omega), if_pos (by omega), if_pos (by omega), rd_nat w i hlt, List.drop_eq_getElem_cons hlt, w_id (by omega) (by omega), show ((i : Int) + 1) = ((i + 1 : Nat) : Int) by omega]
    by_cases h : w[i] = x
    · rw [if_pos h, ih k (i + 1) o (by omega) (by omega) (by omega), without_eq _ _ _ h]
    · rw [if_neg h, if_pos (by omega), ih k (i + 1) _ (by omega) (by omega) (by simp; omega), without_ne _ _ _ h, List.append_assoc]
      rfl
theorem spec_drop (w : List Int) (hx : w.length ≤ 1000000000) (x : Int) (k : Nat) (hk : w.length < k) : spec_l18Drop.f k w x = some (without w x) := by
  unfold spec_l18Drop.f
  exact spec_drop_l0 w hx x w.length k 0 [] (by omega) hk (by simp)
theorem without_len (w : List Int) (x : Int) : (without w x).length ≤ w.length := List.length_filter_le _ _
def dropR (w : List Int) (x : Int) : List Int × Bool := if cw w = true ∧ x ∈ w ∧ w.length ≠ 2 then (without w x, true) else ([], false)
theorem dropR_len (w : List Int) (x : Int) : (dropR w x).1.length ≤ w.length := by
  unfold dropR
  split
  · exact without_len w x
  · simp
theorem spec_dropC (w : List Int) (hx : w.length ≤ 1048576) (x : Int) (k : Nat) (hk : 1048577 < k) : spec_DropCrossing.f k w x = some (dropR w x) := by
  unfold spec_DropCrossing.f dropR
  rw [spec_cw w hx k hk, Option.bind_some]
  by_cases h : cw w = true
  · obtain ⟨h1, h2⟩ := cw_true h
    have hm := cw_mem h x
    rw [if_pos h, spec_count w (by omega) (cw_small h) x k (by omega), Option.bind_some, spec_drop w (by omega) x k (by omega), Option.bind_some]
    by_cases h3 : x < 1
    · rw [if_pos h3, if_neg (fun h' => by have := hm.1 h'.2.1; omega)]
    · rw [if_neg h3]
      by_cases h4 : cnt w x = 2
      · rw [if_pos h4]
        by_cases h5 : (w.length : Int) = 2
        · rw [if_pos h5, if_neg (fun h' => h'.2.2 (by omega))]
        · rw [if_neg h5, if_pos ⟨h, hm.2 ⟨by omega, h4⟩, fun h' => h5 (by omega)⟩]
      · rw [if_neg h4, if_neg (fun h' => h4 (hm.1 h'.2.1).2)]
  · rw [if_neg h, if_neg (fun h' => h h'.1)]
theorem impl_dropC (w : List Int) (hx : w.length ≤ 1048576) (x : Int) (k : Nat) (hk : 1048577 < k) : impl_DropCrossing.f k w x = some (dropR w x) := by
  obtain ⟨k, rfl⟩ : ∃ m, k = m + 1 := ⟨k - 1, by omega⟩
  unfold impl_DropCrossing.f dropR
  rw [impl_cw w hx (k + 1) hk, Option.bind_some]
  simp only [impl_DropCrossing.j0, if_true]
  by_cases h : cw w = true
  · obtain ⟨h1, h2⟩ := cw_true h
    have hm := idx_mem w x
    rw [if_pos h, indexOf_eq w (by omega) x _ (by omega), Option.bind_some]
    by_cases h3 : idx w x < 0
    · rw [if_pos h3, if_neg (fun h' => by have := hm.2 h'.2.1; omega)]
    · rw [if_neg h3]
      by_cases h5 : (w.length : Int) = 2
      · rw [if_pos (by simpa using h5), if_neg (fun h' => h'.2.2 (by omega))]
      · rw [if_neg (by simpa using h5), if_pos ⟨h, hm.1 (by omega), fun h' => h5 (by omega)⟩]
        exact impl_drop_l0 w (by omega) x w.length k 0 [] (by omega) (by omega) (by simp)
  · rw [if_neg h, if_neg (fun h' => h h'.1)]
end Go.Proofs.Ytfcdomcnkeeffaa.L
