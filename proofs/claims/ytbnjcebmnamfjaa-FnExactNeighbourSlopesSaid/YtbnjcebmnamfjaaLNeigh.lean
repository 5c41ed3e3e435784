/- What the program's and the reference's NeighbourSlopes compute; no condition but the number of rounds. -/
import Derived.Test.YtbnjcebmnamfjaaPx0
import Derived.Test.YtbnjcebmnamfjaaPx7
import Derived.Test.YtbnjcebmnamfjaaPx10
import Derived.Test.YtbnjcebmnamfjaaPx11
import Derived.Test.YtbnjcebmnamfjaaLAll
namespace Go.Proofs.Ytbnjcebmnamfjaa.L
open Go.RowKit Go.Proofs.Ytbnjcebmnamfjaa.P Go.Proofs.Ytbnjcebmnamfjaa.Help Go.Proofs.YtbnjcebmnamfjaaW.PrintWords
set_option linter.unusedVariables false
set_option linter.unusedSimpArgs false

def crossing (p q : Int) (t : S25) : Bool := decide (crossR p q t.f0 t.f1 = 1)
theorem rdT_nat (xs : List S25) (i : Nat) (h : i < xs.length) : rd_T25 xs (i : Int) = xs[i] := by
  unfold rd_T25
  simp [List.getD_eq_getElem?_getD, List.getElem?_eq_getElem h]
theorem spec_nb_l0 (p q : Int) (xs : List S25) (hx : xs.length ≤ 1000000) : ∀ (d k i : Nat) (o : List S25), i + d = xs.length → d + 1001 < k → o.length ≤ i → spec_NeighbourSlopes.l0 k o xs (i : Int) p q = some (o ++ (xs.drop i).filter (crossing p q)) := by
  intro d
  induction d with
  | zero =>
    intro k i o hi hk ho
    obtain ⟨k, rfl⟩ : ∃ m, k = m + 1 := ⟨k - 1, by omega⟩
    conv => lhs; unfold spec_NeighbourSlopes.l0
    rw [if_neg (by omega), List.drop_of_length_le (by omega)]
    simp
  | succ d ih =>
    intro k i o hi hk ho
    obtain ⟨k, rfl⟩ : ∃ m, k = m + 1 := ⟨k - 1, by omega⟩
    have hlt : i < xs.length := by omega
    conv => lhs; unfold spec_NeighbourSlopes.l0
    rw [if_pos (by omega), if_pos (by omega), rdT_nat xs i hlt, spec_cross _ _ _ _ k (by omega), Option.bind_some, w_id (by omega) (by omega), show ((i : Int) + 1) = ((i + 1 : Nat) : Int) by omega, List.drop_eq_getElem_cons hlt, List.filter_cons]
    by_cases h : crossR p q xs[i].f0 xs[i].f1 = 1
    · rw [if_pos h, if_pos (by omega), if_pos (show crossing p q xs[i] = true from decide_eq_true h), ih k (i + 1) _ (by omega) (by omega) (by simp; omega), List.append_assoc]
      rfl
    · rw [if_neg h, if_neg (show ¬ crossing p q xs[i] = true by unfold crossing; simpa using h), ih k (i + 1) o (by omega) (by omega) (by omega)]
theorem cross_sym {p q r s : Int} (h : isS p q = true) (h2 : isS r s = true) : ((r * q - s * p).natAbs : Int) = crossR p q r s := by
  unfold crossR
  rw [if_pos ⟨h, h2⟩, show r * q - s * p = -(p * s - q * r) by grind, Int.natAbs_neg]
theorem impl_nb_l1 (p q : Int) (hs : isS p q = true) (most : Int) (hm : 0 ≤ most ∧ most ≤ 100) (y : Int) (hy : 0 ≤ y ∧ y ≤ 100) : ∀ (d k : Nat) (x : Int) (o : List S25), x + d = most + 1 → -most ≤ x → d + 1002 < k → o.length + d ≤ 1000000 → impl_neighbours.l1 k most o y x p q = impl_neighbours.l0 (k - d - 1) most (o ++ (rowS d x y).filter (crossing p q)) (y + 1) p q := by
  obtain ⟨b1, b2, _⟩ := isS_true hs
  intro d
  induction d with
  | zero =>
    intro k x o hx hx0 hk ho
    obtain ⟨k, rfl⟩ : ∃ m, k = m + 1 := ⟨k - 1, by omega⟩
    conv => lhs; unfold impl_neighbours.l1
    rw [if_neg (by omega), w_id (by omega) (by omega)]
    simp [rowS]
  | succ d ih =>
    intro k x o hx hx0 hk ho
    obtain ⟨k, rfl⟩ : ∃ m, k = m + 1 := ⟨k - 1, by omega⟩
    conv => lhs; unfold impl_neighbours.l1
    rw [if_pos (by omega), impl_isS _ _ k (by omega), Option.bind_some, impl_cross_eq (by omega) (by omega) b1 (by omega), Option.bind_some, w_id (by omega) (by omega), rowS, show k + 1 - (d + 1) - 1 = k - d - 1 by omega]
    by_cases h : isS x y = true
    · rw [if_pos h, if_pos h, cross_sym hs h, List.filter_cons]
      by_cases h2 : crossR p q x y = 1
      · rw [if_pos h2, if_pos (by omega), if_pos (show crossing p q ⟨x, y⟩ = true from decide_eq_true h2), ih k (x + 1) _ (by omega) (by omega) (by omega) (by simp; omega), List.append_assoc]
        rfl
      · rw [if_neg h2, if_neg (show ¬ crossing p q ⟨x, y⟩ = true by unfold crossing; simpa using h2), ih k (x + 1) o (by omega) (by omega) (by omega) (by omega)]
    · rw [if_neg h, if_neg h, ih k (x + 1) o (by omega) (by omega) (by omega) (by omega)]
theorem impl_nb_l0 (p q : Int) (hs : isS p q = true) (most : Int) (hm : 0 ≤ most ∧ most ≤ 100) : ∀ (d k : Nat) (y : Int) (o : List S25), y + d = most + 1 → 0 ≤ y → 210 * d + 1300 < k → o.length + 201 * d ≤ 1000000 → impl_neighbours.l0 k most o y p q = some (o ++ (allS most d y).filter (crossing p q)) := by
  intro d
  induction d with
  | zero =>
    intro k y o hy hy0 hk ho
    obtain ⟨k, rfl⟩ : ∃ m, k = m + 1 := ⟨k - 1, by omega⟩
    conv => lhs; unfold impl_neighbours.l0
    rw [if_neg (by omega)]
    simp [allS]
  | succ d ih =>
    intro k y o hy hy0 hk ho
    obtain ⟨k, rfl⟩ : ∃ m, k = m + 1 := ⟨k - 1, by omega⟩
    have hl := rowS_len (2 * most + 1).toNat (-most) y
    have hf := List.length_filter_le (crossing p q) (rowS (2 * most + 1).toNat (-most) y)
    conv => lhs; unfold impl_neighbours.l0
    rw [if_pos (by omega), w_id (by omega) (by omega), impl_nb_l1 p q hs most hm y (by omega) (2 * most + 1).toNat k (-most) o (by omega) (by omega) (by omega) (by omega), ih _ (y + 1) _ (by omega) (by omega) (by omega) (by rw [List.length_append]; omega), allS, List.append_assoc, List.filter_append]
def nbR (p q most : Int) : List S25 := (allR most).filter (crossing p q)
theorem impl_nb (p q : Int) (hs : isS p q = true) (most : Int) (hm : 0 ≤ most ∧ most ≤ 100) (k : Nat) (hk : 25000 < k) : impl_neighbours.f k p q most = some (nbR p q most) := by
  unfold impl_neighbours.f nbR allR
  have := impl_nb_l0 p q hs most hm (most + 1).toNat k 0 [] (by omega) (by omega) (by omega) (by simp; omega)
  rw [List.nil_append] at this
  exact this
def neighR (p q most : Int) : List S25 := if isS p q = true ∧ 1 ≤ most ∧ most ≤ 20 then nbR p q most else []
theorem neighR_len (p q most : Int) : (neighR p q most).length ≤ 21000 := by
  unfold neighR
  split
  · rename_i h
    exact Nat.le_trans (List.length_filter_le _ _) (allR_len most (by omega))
  · simp
theorem spec_neigh (p q most : Int) (k : Nat) (hk : 30000 < k) : spec_NeighbourSlopes.f k p q most = some (neighR p q most) := by
  obtain ⟨k, rfl⟩ : ∃ m, k = m + 1 := ⟨k - 1, by omega⟩
  unfold spec_NeighbourSlopes.f neighR
  simp only [Option.bind_some]
  rw [spec_isS _ _ _ (by omega), l1In_eq, Option.bind_some, Option.bind_some]
  by_cases h : isS p q = true
  · rw [if_pos h]
    conv => lhs; unfold spec_NeighbourSlopes.j0; dsimp only
    by_cases h2 : 1 ≤ most ∧ most ≤ 20
    · have hl := allR_len most (by omega)
      rw [if_neg (by simp; omega), if_pos ⟨h, h2⟩, spec_all most (by omega) k (by omega), Option.bind_some]
      exact spec_nb_l0 p q (allR most) (by omega) (allR most).length k 0 [] (by omega) (by omega) (by simp)
    · rw [if_pos (by simp; omega), if_neg (fun h => h2 h.2)]
  · rw [if_neg h, if_neg (fun h' => h h'.1)]
    conv => lhs; unfold spec_NeighbourSlopes.j0; dsimp only
    rw [if_pos rfl]
theorem impl_neigh (p q most : Int) (k : Nat) (hk : 30000 < k) : impl_NeighbourSlopes.f k p q most = some (neighR p q most) := by
  unfold impl_NeighbourSlopes.f neighR
  rw [impl_isS _ _ _ (by omega), within_eq, Option.bind_some, Option.bind_some]
  by_cases h : isS p q = true
  · rw [if_pos h]
    by_cases h2 : 1 ≤ most ∧ most ≤ 20
    · rw [if_pos (decide_eq_true h2), if_pos ⟨h, h2⟩, impl_nb p q h most (by omega) k (by omega)]
      rfl
    · rw [if_neg (by simpa using h2), if_neg (fun h => h2 h.2)]
  · rw [if_neg h, if_neg (fun h' => h h'.1)]
end Go.Proofs.Ytbnjcebmnamfjaa.L
