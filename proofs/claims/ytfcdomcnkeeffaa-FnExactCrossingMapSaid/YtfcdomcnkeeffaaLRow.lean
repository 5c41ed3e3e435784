/- What the program's and the reference's LinkRow compute; no condition but the number of rounds and the length. -/
import Derived.Test.YtfcdomcnkeeffaaPx1
import Derived.Test.YtfcdomcnkeeffaaPx8
import Derived.Test.YtfcdomcnkeeffaaPx25
import Derived.Test.YtfcdomcnkeeffaaPx26
import Derived.Test.YtfcdomcnkeeffaaLPlaces
namespace Go.Proofs.Ytfcdomcnkeeffaa.L
open Go.RowKit Go.Proofs.Ytfcdomcnkeeffaa.P Go.Proofs.Ytfcdomcnkeeffaa.Help Go.Proofs.YtfcdomcnkeeffaaW.PrintWords
set_option linter.unusedVariables false
set_option linter.unusedSimpArgs false

/-- The letters of a word from a number on, n numbers. -/
def lettersF (w : List Int) : Nat → Nat → List Int
  | 0, _ => []
  | n + 1, i => if cnt w (i : Int) > 0 then (i : Int) :: lettersF w n (i + 1) else lettersF w n (i + 1)
theorem lettersF_len (w : List Int) : ∀ n i, (lettersF w n i).length ≤ n
  | 0, _ => by simp [lettersF]
  | n + 1, i => by
    have := lettersF_len w n (i + 1)
    rw [lettersF]
    split
    · rw [List.length_cons]; omega
    · omega
theorem letters_l0 (w : List Int) : ∀ (d k i : Nat) (o : List Int), i + d = 9 → d < k → o.length ≤ i → impl_lettersOf.l0 k o (cl w) 9 (i : Int) = some (o ++ lettersF w d i) := by
  intro d
  induction d with
  | zero =>
    intro k i o hi hk ho
    obtain ⟨k, rfl⟩ : ∃ m, k = m + 1 := ⟨k - 1, by omega⟩
    simp only [impl_lettersOf.l0, lettersF]
    rw [if_neg (by omega), List.append_nil]
  | succ d ih =>
    intro k i o hi hk ho
    obtain ⟨k, rfl⟩ : ∃ m, k = m + 1 := ⟨k - 1, by omega⟩
    have hlt : i < (cl w).length := by rw [cl_len]; omega
    simp only [impl_lettersOf.l0, lettersF]
    rw [if_pos (by omega), if_pos (by omega), cl_len, if_pos (by omega), rd_nat _ i hlt, cl_get, w_id (by omega) (by omega), show ((i : Int) + 1) = ((i + 1 : Nat) : Int) by omega]
    by_cases h : cnt w (i : Int) > 0
    · rw [if_pos h, if_pos h, if_pos (by omega), ih k (i + 1) _ (by omega) (by omega) (by simp; omega)]
      simp
    · rw [if_neg h, if_neg h, ih k (i + 1) o (by omega) (by omega) (by omega)]
def letters (w : List Int) : List Int := lettersF w 9 0
theorem impl_letters {w : List Int} (h : cw w = true) (k : Nat) (hk : 50 < k) : impl_lettersOf.f k w = some (letters w) := by
  unfold impl_lettersOf.f
  obtain ⟨h1, _⟩ := cw_true h
  rw [crossings_eq w (by omega) (cw_small h) k (by omega), Option.bind_some, cl_len]
  exact letters_l0 w 9 k 0 [] (by omega) (by omega) (by simp)
theorem lettersF_pos {w : List Int} : ∀ n i, ∀ x ∈ lettersF w n i, cnt w x > 0 ∧ (i : Int) ≤ x
  | 0, _, x, h => by simp [lettersF] at h
  | n + 1, i, x, h => by
    rw [lettersF] at h
    split at h
    · rcases List.mem_cons.1 h with rfl | h
      · exact ⟨by assumption, by omega⟩
      · have := lettersF_pos n (i + 1) x h
        exact ⟨this.1, by omega⟩
    · have := lettersF_pos n (i + 1) x h
      exact ⟨this.1, by omega⟩
theorem cw_zero {w : List Int} (h : cw w = true) : cnt w 0 = 0 := by
  by_cases h0 : cnt w 0 = 0
  · exact h0
  · obtain ⟨y, hy, e⟩ := (cnt_ne w 0).1 h0
    have := cw_pos h y hy
    omega
theorem cw_cnt {w : List Int} (h : cw w = true) (x : Int) : cnt w x = 0 ∨ cnt w x = 2 := by
  by_cases h0 : cnt w x = 0
  · exact .inl h0
  · obtain ⟨y, hy, e⟩ := (cnt_ne w x).1 h0
    have := cw_pos h y hy
    have e2 : y = x := by omega
    rw [← e2]
    exact .inr (cw_two h y hy)
/-- How many letters of a list are linked with a letter. -/
def linksOf (w : List Int) (x : Int) : List Int → Int
  | [] => 0
  | y :: ys => (if x ≠ y ∧ lk w x y = true then 1 else 0) + linksOf w x ys
theorem linksOf_bd (w : List Int) (x : Int) : ∀ l, 0 ≤ linksOf w x l ∧ linksOf w x l ≤ l.length
  | [] => by simp [linksOf]
  | y :: ys => by
    have := linksOf_bd w x ys
    rw [linksOf, List.length_cons]
    split <;> omega
theorem bit_eq (b : Bool) : spec_l1Bit.f b = some (if b = true then 1 else 0) := by
  unfold spec_l1Bit.f
  split <;> rfl
theorem spec_row_l1 {w : List Int} (h : cw w = true) (x : Int) (o : List Int) (ho : o.length ≤ 20) : ∀ (d k j : Nat) (n : Int), j + d = 9 → 1 ≤ j → d + 30 < k → 0 ≤ n → n + d ≤ 100 → 1 ≤ x → x ≤ 8 →
    spec_LinkRow.l1 k w o x n (j : Int) = spec_LinkRow.l0 (k - d - 1) w (o ++ [n + linksOf w x (lettersF w d j)]) (x + 1) := by
  intro d
  obtain ⟨h1, _⟩ := cw_true h
  induction d with
  | zero =>
    intro k j n hj hj1 hk h0 hn hx0 hx1
    obtain ⟨k, rfl⟩ : ∃ m, k = m + 1 := ⟨k - 1, by omega⟩
    conv => lhs; unfold spec_LinkRow.l1
    rw [if_neg (by omega), if_pos (by omega), w_id (by omega) (by omega)]
    simp [lettersF, linksOf]
  | succ d ih =>
    intro k j n hj hj1 hk h0 hn hx0 hx1
    obtain ⟨k, rfl⟩ : ∃ m, k = m + 1 := ⟨k - 1, by omega⟩
    conv => lhs; unfold spec_LinkRow.l1
    rw [if_pos (by omega), bit_eq, spec_count w (by omega) (cw_small h) _ k (by omega), spec_lk w (by omega) x _ k (by omega), w_id (a := (j : Int) + 1) (by omega) (by omega), show ((j : Int) + 1) = ((j + 1 : Nat) : Int) by omega]
    simp only [Option.bind_some, Bool.false_eq_true, if_false, Int.add_zero, lettersF]
    rw [w_id (a := n) (by omega) (by omega), show k + 1 - (d + 1) - 1 = k - d - 1 by omega]
    have h0' := ih k (j + 1) n (by omega) (by omega) (by omega) h0 (by omega) hx0 hx1
    rcases cw_cnt h (j : Int) with hc | hc
    · rw [hc, if_neg (show ¬ (0 : Int) = 2 by decide), if_neg (show ¬ (0 : Int) > 0 by decide), h0']
      split <;> rfl
    · rw [hc, if_pos (show (2 : Int) = 2 from rfl), if_pos (show (2 : Int) > 0 by decide)]
      by_cases hx : (j : Int) = x
      · rw [if_pos hx, h0', linksOf, if_neg (fun h => h.1 hx.symm), Int.zero_add]
      · rw [if_neg hx, bit_eq, Option.bind_some]
        by_cases hl : lk w x (j : Int) = true
        · rw [if_pos hl, w_id (by omega) (by omega), ih k (j + 1) (n + 1) (by omega) (by omega) (by omega) (by omega) (by omega) hx0 hx1, linksOf, if_pos ⟨Ne.symm hx, hl⟩]
          congr 3
          omega
        · rw [if_neg hl, Int.add_zero, w_id (by omega) (by omega), h0', linksOf, if_neg (fun h => hl h.2), Int.zero_add]
def rowF (w : List Int) : Nat → Nat → List Int
  | 0, _ => []
  | n + 1, i => if cnt w (i : Int) > 0 then linksOf w (i : Int) (letters w) :: rowF w n (i + 1) else rowF w n (i + 1)
theorem letters_tail {w : List Int} (h : cw w = true) : letters w = lettersF w 8 1 := by
  unfold letters
  rw [lettersF, if_neg (by rw [show (((0 : Nat) : Int)) = 0 from rfl, cw_zero h]; decide)]
theorem spec_row_l0 {w : List Int} (h : cw w = true) : ∀ (d k i : Nat) (o : List Int), i + d = 9 → 1 ≤ i → 20 * d + 1048600 < k → o.length ≤ i → spec_LinkRow.l0 k w o (i : Int) = some (o ++ rowF w d i) := by
  intro d
  obtain ⟨h1, _⟩ := cw_true h
  induction d with
  | zero =>
    intro k i o hi hi1 hk ho
    obtain ⟨k, rfl⟩ : ∃ m, k = m + 2 := ⟨k - 2, by omega⟩
    conv => lhs; unfold spec_LinkRow.l0; unfold spec_LinkRow.j1
    rw [if_neg (by omega)]
    simp [rowF]
  | succ d ih =>
    intro k i o hi hi1 hk ho
    obtain ⟨k, rfl⟩ : ∃ m, k = m + 2 := ⟨k - 2, by omega⟩
    conv => lhs; unfold spec_LinkRow.l0; unfold spec_LinkRow.j1
    rw [if_pos (by omega), spec_cw w (by omega) _ (by omega), Option.bind_some, h, if_pos rfl, spec_count w (by omega) (cw_small h) _ k (by omega), Option.bind_some, w_id (by omega) (by omega)]
    simp only [rowF]
    have hb := cnt_bd w (i : Int)
    by_cases hc : cnt w (i : Int) = 0
    · rw [if_pos hc, if_neg (by omega), show ((i : Int) + 1) = ((i + 1 : Nat) : Int) by omega, ih k (i + 1) o (by omega) (by omega) (by omega) (by omega)]
    · have hl := spec_row_l1 h (i : Int) o (by omega) 8 k 1 0 (by omega) (by omega) (by omega) (by omega) (by omega) (by omega) (by omega)
      rw [← letters_tail h, Int.zero_add] at hl
      rw [if_neg hc, if_pos (by omega), show (1 : Int) = ((1 : Nat) : Int) from rfl, hl]
      have h2 := ih (k - 8 - 1) (i + 1) (o ++ [linksOf w (i : Int) (letters w)]) (by omega) (by omega) (by omega) (by simp; omega)
      rw [show (((i + 1 : Nat)) : Int) = (i : Int) + 1 by omega] at h2
      refine h2.trans ?_
      rw [List.append_assoc]
      rfl
def rowR (w : List Int) : List Int := if cw w = true then rowF w 8 1 else []
theorem rowF_len (w : List Int) : ∀ n i, (rowF w n i).length ≤ n
  | 0, _ => by simp [rowF]
  | n + 1, i => by
    have := rowF_len w n (i + 1)
    rw [rowF]
    split
    · rw [List.length_cons]; omega
    · omega
theorem rowR_len (w : List Int) : (rowR w).length ≤ 8 := by
  unfold rowR
  split
  · exact rowF_len _ _ _
  · simp
theorem spec_row (w : List Int) (hx : w.length ≤ 1048576) (k : Nat) (hk : 1060000 < k) : spec_LinkRow.f k w = some (rowR w) := by
  unfold spec_LinkRow.f rowR
  by_cases h : cw w = true
  · rw [if_pos h]
    exact spec_row_l0 h 8 k 1 [] (by omega) (by omega) (by omega) (by simp)
  · rw [if_neg h]
    obtain ⟨k, rfl⟩ : ∃ m, k = m + 2 := ⟨k - 2, by omega⟩
    conv => lhs; unfold spec_LinkRow.l0; unfold spec_LinkRow.j1
    rw [if_pos (by decide), spec_cw w hx _ (by omega), Option.bind_some, if_neg h]
theorem impl_row_l1 {w : List Int} (h : cw w = true) (x : Int) (o L : List Int) (ho : o.length ≤ 20) (a : Int) (ha : 0 ≤ a ∧ a ≤ 100) (l : List Int) (hl : l.length ≤ 20) : ∀ (d k j : Nat) (n : Int), j + d = l.length → d + 30 < k → 0 ≤ n → n + d ≤ 100 →
    impl_LinkRow.l1 k w o x n L (L.length : Int) a l (l.length : Int) (j : Int) = impl_LinkRow.l0 (k - d - 1) w (o ++ [n + linksOf w x (l.drop j)]) L (L.length : Int) (a + 1) := by
  intro d
  obtain ⟨h1, _⟩ := cw_true h
  induction d with
  | zero =>
    intro k j n hj hk h0 hn
    obtain ⟨k, rfl⟩ : ∃ m, k = m + 1 := ⟨k - 1, by omega⟩
    conv => lhs; unfold impl_LinkRow.l1
    rw [if_neg (by omega), if_pos (by omega), w_id (by omega) (by omega), List.drop_of_length_le (by omega)]
    simp [linksOf]
  | succ d ih =>
    intro k j n hj hk h0 hn
    obtain ⟨k, rfl⟩ : ∃ m, k = m + 1 := ⟨k - 1, by omega⟩
    have hlt : j < l.length := by omega
    conv => lhs; unfold impl_LinkRow.l1
    rw [if_pos (by omega), if_pos (by omega), if_pos (by omega), rd_nat l j hlt, impl_lk w (by omega) x _ (cw_pos h) (cw_two h) k (by omega), Option.bind_some, w_id (a := (j : Int) + 1) (by omega) (by omega), w_id (a := n + 1) (by omega) (by omega), show ((j : Int) + 1) = ((j + 1 : Nat) : Int) by omega, List.drop_eq_getElem_cons hlt, linksOf, show k + 1 - (d + 1) - 1 = k - d - 1 by omega]
    have h0' := ih k (j + 1) n (by omega) (by omega) h0 (by omega)
    by_cases hx : x = l[j]
    · rw [if_pos hx, h0', if_neg (fun h => h.1 hx), Int.zero_add]
    · rw [if_neg hx]
      by_cases hl2 : lk w x l[j] = true
      · rw [if_pos hl2, ih k (j + 1) (n + 1) (by omega) (by omega) (by omega) (by omega), if_pos ⟨hx, hl2⟩]
        congr 3
        omega
      · rw [if_neg hl2, h0', if_neg (fun h => hl2 h.2), Int.zero_add]
theorem impl_row_l0 {w : List Int} (h : cw w = true) (L : List Int) (hL : L.length ≤ 20) : ∀ (d k i : Nat) (o : List Int), i + d = L.length → 50 * d + 100 < k → o.length ≤ i → impl_LinkRow.l0 k w o L (L.length : Int) (i : Int) = some (o ++ (L.drop i).map (fun x => linksOf w x (letters w))) := by
  intro d
  obtain ⟨h1, _⟩ := cw_true h
  induction d with
  | zero =>
    intro k i o hi hk ho
    obtain ⟨k, rfl⟩ : ∃ m, k = m + 1 := ⟨k - 1, by omega⟩
    conv => lhs; unfold impl_LinkRow.l0
    rw [if_neg (by omega), List.drop_of_length_le (by omega)]
    simp
  | succ d ih =>
    intro k i o hi hk ho
    obtain ⟨k, rfl⟩ : ∃ m, k = m + 1 := ⟨k - 1, by omega⟩
    have hlt : i < L.length := by omega
    have hll : (letters w).length ≤ 9 := lettersF_len w 9 0
    conv => lhs; unfold impl_LinkRow.l0
    rw [if_pos (by omega), if_pos (by omega), if_pos (by omega), impl_letters h k (by omega), Option.bind_some, rd_nat L i hlt]
    have hl := impl_row_l1 h L[i] o L (by omega) (i : Int) (by omega) (letters w) (by omega) (letters w).length k 0 0 (by omega) (by omega) (by omega) (by omega)
    rw [List.drop_zero, Int.zero_add] at hl
    rw [show (0 : Int) = ((0 : Nat) : Int) from rfl]
    rw [show (((0 : Nat) : Int)) = 0 from rfl] at hl ⊢
    rw [hl, show ((i : Int) + 1) = ((i + 1 : Nat) : Int) by omega, ih _ (i + 1) _ (by omega) (by omega) (by simp; omega), List.drop_eq_getElem_cons hlt, List.map_cons, List.append_assoc]
    rfl
theorem rowF_map (w : List Int) : ∀ n i, rowF w n i = (lettersF w n i).map (fun x => linksOf w x (letters w))
  | 0, _ => rfl
  | n + 1, i => by
    rw [rowF, lettersF]
    split
    · rw [List.map_cons, rowF_map w n (i + 1)]
    · exact rowF_map w n (i + 1)
theorem impl_row (w : List Int) (hx : w.length ≤ 1048576) (k : Nat) (hk : 1060000 < k) : impl_LinkRow.f k w = some (rowR w) := by
  unfold impl_LinkRow.f rowR
  rw [impl_cw w hx k (by omega), Option.bind_some]
  by_cases h : cw w = true
  · have hll : (letters w).length ≤ 9 := lettersF_len w 9 0
    rw [if_pos h, if_pos h, impl_letters h k (by omega), Option.bind_some, rowF_map, ← letters_tail h]
    have := impl_row_l0 h (letters w) (by omega) (letters w).length k 0 [] (by omega) (by omega) (by simp)
    rw [List.drop_zero, List.nil_append] at this
    exact this
  · rw [if_neg h, if_neg h]
end Go.Proofs.Ytfcdomcnkeeffaa.L
