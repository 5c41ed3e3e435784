/- Where a side stands: what sideAt and l16Find compute in a triangulation. -/
import Derived.Test.YtcligopbieaceaaPx11
import Derived.Test.YtcligopbieaceaaPx14
import Derived.Test.YtcligopbieaceaaPx15
import Derived.Test.YtcligopbieaceaaLTriOk
namespace Go.Proofs.Ytcligopbieaceaa.L
open Go.RowKit Go.Proofs.Ytcligopbieaceaa.P Go.Proofs.Ytcligopbieaceaa.Help Go.Proofs.YtcligopbieaceaaW.PrintWords
set_option linter.unusedVariables false
set_option linter.unusedSimpArgs false

/-- The first place of a number. -/
def idx (x : Int) : List Int → Int → Int
  | [], _ => -1
  | y :: ys, j => if y = x then j else idx x ys (j + 1)
def sideR (x : Int) : List (List Int) → Int → Int × Int
  | [], _ => (-1, -1)
  | r :: rs, i => if 0 ≤ idx x r 0 then (i, idx x r 0) else sideR x rs (i + 1)
theorem idx_bd (x : Int) : ∀ (ys : List Int) (j : Int), 0 ≤ j → idx x ys j = -1 ∨ (j ≤ idx x ys j ∧ idx x ys j < j + ys.length)
  | [], j, _ => .inl rfl
  | y :: ys, j, hj => by
    rw [idx, List.length_cons]
    split
    · exact .inr (by omega)
    · rcases idx_bd x ys (j + 1) (by omega) with h | h
      · exact .inl h
      · exact .inr (by omega)
theorem idx_hit (x : Int) : ∀ (ys : List Int) (j : Int), 0 ≤ j → x ∈ ys → j ≤ idx x ys j ∧ idx x ys j < j + ys.length
  | [], j, _, h => absurd h (by simp)
  | y :: ys, j, hj, h => by
    rw [idx, List.length_cons]
    by_cases e : y = x
    · rw [if_pos e]; omega
    · rw [if_neg e]
      have := idx_hit x ys (j + 1) (by omega) (by
        rcases List.mem_cons.1 h with h | h
        · exact absurd h.symm e
        · exact h)
      omega
theorem idx_at (x : Int) : ∀ (ys : List Int) (j : Int), 0 ≤ j → 0 ≤ idx x ys j → ys[(idx x ys j - j).toNat]? = some x
  | [], j, _, h => absurd h (by simp [idx])
  | y :: ys, j, hj, h => by
    rw [idx] at h ⊢
    by_cases e : y = x
    · rw [if_pos e]
      simp [e]
    · rw [if_neg e] at h ⊢
      have ih := idx_at x ys (j + 1) (by omega) h
      rcases idx_bd x ys (j + 1) (by omega) with h2 | h2
      · omega
      · rw [show (idx x ys (j + 1) - j).toNat = (idx x ys (j + 1) - (j + 1)).toNat + 1 by omega, List.getElem?_cons_succ]
        exact ih
theorem indexOf_l0 (x : Int) (xs : List Int) (hx : xs.length ≤ 1000000000000) : ∀ (d k j : Nat), j + d = xs.length → d < k → impl_indexOf.l0 k x xs (xs.length : Int) (j : Int) = some (idx x (xs.drop j) (j : Int)) := by
  intro d
  induction d with
  | zero =>
    intro k j hj hk
    obtain ⟨k, rfl⟩ : ∃ m, k = m + 1 := ⟨k - 1, by omega⟩
    simp only [impl_indexOf.l0]
    rw [if_neg (by omega), List.drop_of_length_le (by omega)]
    rfl
  | succ d ih =>
    intro k j hj hk
    obtain ⟨k, rfl⟩ : ∃ m, k = m + 1 := ⟨k - 1, by omega⟩
    have hlt : j < xs.length := by omega
    simp only [impl_indexOf.l0]
    rw [if_pos (by omega), if_pos (by omega), if_pos (by omega), rd_nat xs j hlt, List.drop_eq_getElem_cons hlt, idx]
    by_cases e : xs[j] = x
    · rw [if_pos e, if_pos e]
    · rw [if_neg e, if_neg e, w_id (by omega) (by omega), show ((j : Int) + 1) = ((j + 1 : Nat) : Int) by omega, ih k (j + 1) (by omega) (by omega)]
theorem indexOf_f (x : Int) (xs : List Int) (hx : xs.length ≤ 1000000000000) (k : Nat) (hk : xs.length < k) : impl_indexOf.f k xs x = some (idx x xs 0) := by
  unfold impl_indexOf.f
  have := indexOf_l0 x xs hx xs.length k 0 (by omega) hk
  rw [List.drop_zero] at this
  exact this
theorem sideAt_l0 (x : Int) (t : List (List Int)) (ht : t.length ≤ 1048576) (hr : ∀ r ∈ t, r.length ≤ 1048576) : ∀ (d k i : Nat), i + d = t.length → d + 1048577 < k → impl_sideAt.l0 k x t (t.length : Int) (i : Int) = some (sideR x (t.drop i) (i : Int)) := by
  intro d
  induction d with
  | zero =>
    intro k i hi hk
    obtain ⟨k, rfl⟩ : ∃ m, k = m + 1 := ⟨k - 1, by omega⟩
    simp only [impl_sideAt.l0]
    rw [if_neg (by omega), List.drop_of_length_le (by omega)]
    rfl
  | succ d ih =>
    intro k i hi hk
    obtain ⟨k, rfl⟩ : ∃ m, k = m + 1 := ⟨k - 1, by omega⟩
    have hlt : i < t.length := by omega
    have hl := hr _ (List.getElem_mem hlt)
    simp only [impl_sideAt.l0]
    rw [if_pos (by omega), if_pos (by omega), if_pos (by omega), rdL_nat t i hlt, indexOf_f x _ (by omega) k (by omega), Option.bind_some, List.drop_eq_getElem_cons hlt, sideR]
    by_cases e : 0 ≤ idx x t[i] 0
    · rw [if_pos e, if_pos e]
    · rw [if_neg e, if_neg e, w_id (by omega) (by omega), show ((i : Int) + 1) = ((i + 1 : Nat) : Int) by omega, ih k (i + 1) (by omega) (by omega)]
theorem sideAt_f (x : Int) (t : List (List Int)) (ht : t.length ≤ 1048576) (hr : ∀ r ∈ t, r.length ≤ 1048576) (k : Nat) (hk : 3000000 < k) : impl_sideAt.f k t x = some (sideR x t 0) := by
  unfold impl_sideAt.f
  have := sideAt_l0 x t ht hr t.length k 0 (by omega) (by omega)
  rw [List.drop_zero] at this
  exact this
theorem find_l1 (x : Int) (t : List (List Int)) (i : Nat) (hi : i < t.length) (hl : t[i].length = 3) : ∀ (d j k : Nat), j + d = 3 → d < k →
    spec_l16Find.l1 k t x (i : Int) (j : Int) = (if 0 ≤ idx x (t[i].drop j) (j : Int) then some ((i : Int), idx x (t[i].drop j) (j : Int)) else spec_l16Find.l0 (k - d - 1) t x (wrap64 ((i : Int) + 1))) := by
  intro d
  induction d with
  | zero =>
    intro j k hj hk
    obtain ⟨k, rfl⟩ : ∃ m, k = m + 1 := ⟨k - 1, by omega⟩
    simp only [spec_l16Find.l1]
    rw [if_neg (by omega), List.drop_of_length_le (by omega), idx, if_neg (by omega)]
    rfl
  | succ d ih =>
    intro j k hj hk
    obtain ⟨k, rfl⟩ : ∃ m, k = m + 1 := ⟨k - 1, by omega⟩
    have hlt : j < t[i].length := by omega
    simp only [spec_l16Find.l1]
    rw [if_pos (by omega), if_pos (by omega), if_pos (by omega), if_pos (by omega), rdL_nat t i hi, if_pos (by omega), rd_nat _ j hlt, List.drop_eq_getElem_cons hlt, idx]
    by_cases e : t[i][j] = x
    · rw [if_pos e, if_pos e, if_pos (by omega)]
    · rw [if_neg e, if_neg e, w_id (a := (j : Int) + 1) (by omega) (by omega), show ((j : Int) + 1) = ((j + 1 : Nat) : Int) by omega, ih (j + 1) k (by omega) (by omega), show k + 1 - (d + 1) - 1 = k - d - 1 by omega]
theorem find_l0 (x : Int) (t : List (List Int)) (ht : t.length ≤ 1048576) (hr : ∀ r ∈ t, r.length = 3) : ∀ (d k i : Nat), i + d = t.length → 5 * d < k → spec_l16Find.l0 k t x (i : Int) = some (sideR x (t.drop i) (i : Int)) := by
  intro d
  induction d with
  | zero =>
    intro k i hi hk
    obtain ⟨k, rfl⟩ : ∃ m, k = m + 1 := ⟨k - 1, by omega⟩
    simp only [spec_l16Find.l0]
    rw [if_neg (by omega), List.drop_of_length_le (by omega)]
    rfl
  | succ d ih =>
    intro k i hi hk
    obtain ⟨k, rfl⟩ : ∃ m, k = m + 1 := ⟨k - 1, by omega⟩
    have hlt : i < t.length := by omega
    have hl := hr _ (List.getElem_mem hlt)
    simp only [spec_l16Find.l0]
    rw [if_pos (by omega)]
    have := find_l1 x t i hlt hl 3 0 k (by omega) (by omega)
    rw [List.drop_zero, show ((0 : Nat) : Int) = 0 from rfl] at this
    rw [this, List.drop_eq_getElem_cons hlt, sideR]
    by_cases e : 0 ≤ idx x t[i] 0
    · rw [if_pos e, if_pos e]
    · rw [if_neg e, if_neg e, w_id (by omega) (by omega), show ((i : Int) + 1) = ((i + 1 : Nat) : Int) by omega, ih _ (i + 1) (by omega) (by omega)]
theorem find_f (x : Int) (t : List (List Int)) (ht : t.length ≤ 1048576) (hr : ∀ r ∈ t, r.length = 3) (k : Nat) (hk : 6000000 < k) : spec_l16Find.f k t x = some (sideR x t 0) := by
  unfold spec_l16Find.f
  have := find_l0 x t ht hr t.length k 0 (by omega) (by omega)
  rw [List.drop_zero] at this
  exact this
/-- An edge's number. -/
def isE (t : List (List Int)) (e : Int) : Bool := isT t && decide (1 ≤ e ∧ e ≤ edges t)
theorem spec_isE (t : List (List Int)) (ht : t.length ≤ 1048576) (e : Int) (k : Nat) (hk : 6000000 < k) : spec_l16Is.f k t e = some (isE t e) := by
  unfold spec_l16Is.f isE
  rw [spec_isT t ht k hk, Option.bind_some]
  by_cases h : isT t = true
  · rw [if_pos h, l1In_eq, Option.bind_some, h]
    rfl
  · rw [if_neg h]
    simp at h
    rw [h]
    rfl
/-- May an edge be flipped? -/
def canR (t : List (List Int)) (e : Int) : Bool := isE t e && ((sideR e t 0).1 != (sideR (-e) t 0).1)
theorem isE_bd {t : List (List Int)} {e : Int} (ht : t.length ≤ 1048576) (h : isE t e = true) : TriOk t (edges t) ∧ 1 ≤ e ∧ e ≤ edges t := by
  unfold isE at h
  rw [Bool.and_eq_true, decide_eq_true_iff] at h
  exact ⟨isT_ok ht h.1, h.2⟩
theorem spec_can (t : List (List Int)) (ht : t.length ≤ 1048576) (e : Int) (k : Nat) (hk : 6000000 < k) : spec_CanFlip.f k t e = some (canR t e) := by
  unfold spec_CanFlip.f canR
  rw [spec_isE t ht e k hk, Option.bind_some]
  by_cases h : isE t e = true
  · obtain ⟨ok, h1, h2⟩ := isE_bd ht h
    have := ok.n9
    rw [if_pos h, find_f _ t ht ok.row k hk, Option.bind_some, w_id (a := -e) (by omega) (by omega), find_f _ t ht ok.row k hk, Option.bind_some, h]
    rfl
  · rw [if_neg h]
    simp at h
    rw [h]
    rfl
theorem impl_can (t : List (List Int)) (ht : t.length ≤ 1048576) (hr : ∀ r ∈ t, r.length ≤ 1048576) (e : Int) (k : Nat) (hk : 6000001 < k) : impl_CanFlip.f k t e = some (canR t e) := by
  obtain ⟨k, rfl⟩ : ∃ m, k = m + 1 := ⟨k - 1, by omega⟩
  unfold impl_CanFlip.f canR isE
  rw [impl_isT t ht _ (by omega), Option.bind_some, within_eq, Option.bind_some]
  simp only [impl_CanFlip.j0]
  by_cases h : isT t = true
  · rw [if_pos h]
    by_cases h2 : 1 ≤ e ∧ e ≤ edges t
    · have ok := isT_ok ht h
      have := ok.n9
      rw [if_neg (by rw [show wrap64 (Int.tdiv (wrap64 (3 * (t.length : Int))) 2) = edges t from rfl, decide_eq_true h2]; decide), sideAt_f _ t ht hr k (by omega), Option.bind_some, w_id (a := -e) (by omega) (by omega), sideAt_f _ t ht hr k (by omega), Option.bind_some, h, decide_eq_true h2]
      rfl
    · rw [if_pos (by rw [show wrap64 (Int.tdiv (wrap64 (3 * (t.length : Int))) 2) = edges t from rfl, decide_eq_false h2]; decide), decide_eq_false h2, Bool.and_false, Bool.false_and]
  · rw [if_neg h, if_pos trivial]
    simp at h
    rw [h]
    rfl
end Go.Proofs.Ytcligopbieaceaa.L
