/- What the program's and the reference's looking for letters in words computes; no condition but the number of rounds and the length. -/
import Derived.Test.YtfcdomcnkeeffaaPx6
import Derived.Test.YtfcdomcnkeeffaaPx7
import Derived.Test.YtfcdomcnkeeffaaPx13
import Derived.Test.YtfcdomcnkeeffaaPx21
import Derived.Test.YtfcdomcnkeeffaaLWord
namespace Go.Proofs.Ytfcdomcnkeeffaa.L
open Go.RowKit Go.Proofs.Ytfcdomcnkeeffaa.P Go.Proofs.Ytfcdomcnkeeffaa.Help Go.Proofs.YtfcdomcnkeeffaaW.PrintWords
set_option linter.unusedVariables false
set_option linter.unusedSimpArgs false

/-- The first index of a number, or -1. -/
def idx : List Int → Int → Int
  | [], _ => -1
  | y :: ys, x => if y = x then 0 else if idx ys x < 0 then -1 else idx ys x + 1
theorem idx_bd : ∀ (w : List Int) (x : Int), idx w x = -1 ∨ (0 ≤ idx w x ∧ idx w x < w.length)
  | [], _ => .inl rfl
  | y :: ys, x => by
    have ih := idx_bd ys x
    rw [idx, List.length_cons]
    split
    · right; omega
    · split
      · left; rfl
      · right; omega
theorem idx_mem : ∀ (w : List Int) (x : Int), 0 ≤ idx w x ↔ x ∈ w
  | [], x => by simp [idx]
  | y :: ys, x => by
    have ih := idx_mem ys x
    rw [idx, List.mem_cons]
    by_cases h : y = x
    · rw [if_pos h]; simp [h]
    · rw [if_neg h]
      have hne : ¬ x = y := fun e => h e.symm
      by_cases h2 : idx ys x < 0
      · rw [if_pos h2]
        constructor
        · intro h3; omega
        · rintro (h3 | h3)
          · exact absurd h3 hne
          · have := ih.2 h3; omega
      · rw [if_neg h2]
        constructor
        · intro _; exact .inr (ih.1 (by omega))
        · intro _; omega
theorem idx_at : ∀ (w : List Int) (x : Int), 0 ≤ idx w x → ∀ h : (idx w x).toNat < w.length, w[(idx w x).toNat] = x
  | [], x, h => by simp [idx] at h
  | y :: ys, x, h => by
    intro h1
    have ih := idx_at ys x
    by_cases h2 : y = x
    · have e : idx (y :: ys) x = 0 := by rw [idx, if_pos h2]
      simp only [e]
      exact h2
    · by_cases h3 : idx ys x < 0
      · rw [idx, if_neg h2, if_pos h3] at h; omega
      · have e : idx (y :: ys) x = idx ys x + 1 := by rw [idx, if_neg h2, if_neg h3]
        have e2 : (idx (y :: ys) x).toNat = (idx ys x).toNat + 1 := by omega
        simp only [e2, List.getElem_cons_succ]
        exact ih (by omega) _
theorem idx_before : ∀ (w : List Int) (x : Int) (j : Nat), (j : Int) < idx w x → ∀ h : j < w.length, w[j] ≠ x
  | [], x, j, h => by simp [idx] at h; omega
  | y :: ys, x, j, h => by
    intro h1
    by_cases h2 : y = x
    · rw [idx, if_pos h2] at h; omega
    · rw [idx, if_neg h2] at h
      cases j with
      | zero => exact h2
      | succ j =>
        by_cases h3 : idx ys x < 0
        · rw [if_pos h3] at h; omega
        · rw [if_neg h3] at h
          exact idx_before ys x j (by omega) (by simpa using h1)
theorem indexOf_l0 (w : List Int) (hx : w.length ≤ 1000000000) (x : Int) : ∀ (d k i : Nat), i + d = w.length → d < k → impl_indexOf.l0 k x w (w.length : Int) (i : Int) = some (if idx (w.drop i) x < 0 then -1 else i + idx (w.drop i) x) := by
  intro d
  induction d with
  | zero =>
    intro k i hi hk
    obtain ⟨k, rfl⟩ : ∃ m, k = m + 1 := ⟨k - 1, by omega⟩
    simp only [impl_indexOf.l0]
    rw [if_neg (by omega), List.drop_of_length_le (by omega)]
    rfl
  | succ d ih =>
    intro k i hi hk
    obtain ⟨k, rfl⟩ : ∃ m, k = m + 1 := ⟨k - 1, by omega⟩
    have hlt : i < w.length := by omega
    simp only [impl_indexOf.l0]
    rw [if_pos (by omega), if_pos (by omega), if_pos (by omega), rd_nat w i hlt, List.drop_eq_getElem_cons hlt, idx]
    by_cases h : w[i] = x
    · rw [if_pos h, if_pos h, if_neg (by omega)]
      congr 1 <;> omega
    · rw [if_neg h, if_neg h, w_id (by omega) (by omega), show ((i : Int) + 1) = ((i + 1 : Nat) : Int) by omega, ih k (i + 1) (by omega) (by omega)]
      by_cases h2 : idx (w.drop (i + 1)) x < 0
      · rw [if_pos h2, if_pos h2, if_pos (by omega)]
      · rw [if_neg h2, if_neg h2, if_neg (by omega)]
        congr 1
        omega
theorem indexOf_eq (w : List Int) (hx : w.length ≤ 1000000000) (x : Int) (k : Nat) (hk : w.length < k) : impl_indexOf.f k w x = some (idx w x) := by
  unfold impl_indexOf.f
  have h := indexOf_l0 w hx x w.length k 0 (by omega) hk
  rw [List.drop_zero] at h
  rw [show ((0 : Int)) = ((0 : Nat) : Int) from rfl, h]
  congr 1
  rcases idx_bd w x with h2 | h2
  · rw [if_pos (by omega), h2]
  · rw [if_neg (by omega)]; omega
/-- Both places of a letter, or -1 and -1. -/
def pl (w : List Int) (x : Int) : Int × Int :=
  if idx w x < 0 then (-1, -1) else if idx (w.drop ((idx w x).toNat + 1)) x < 0 then (-1, -1) else (idx w x, idx w x + 1 + idx (w.drop ((idx w x).toNat + 1)) x)
theorem places_two (w : List Int) (hx : w.length ≤ 1000000000) (x : Int) (p : Int) (hp : 0 ≤ p) : ∀ (d k i : Nat), i + d = w.length → d < k → spec_l18Places.l0 k w x p (i : Int) = some (if idx (w.drop i) x < 0 then (-1, -1) else (p, i + idx (w.drop i) x)) := by
  intro d
  induction d with
  | zero =>
    intro k i hi hk
    obtain ⟨k, rfl⟩ : ∃ m, k = m + 1 := ⟨k - 1, by omega⟩
    simp only [spec_l18Places.l0]
    rw [if_neg (by omega), List.drop_of_length_le (by omega)]
    rfl
  | succ d ih =>
    intro k i hi hk
    obtain ⟨k, rfl⟩ : ∃ m, k = m + 1 := ⟨k - 1, by omega⟩
    have hlt : i < w.length := by omega
    simp only [spec_l18Places.l0]
    rw [if_pos (by omega), if_pos (by omega), rd_nat w i hlt, List.drop_eq_getElem_cons hlt, idx]
    by_cases h : w[i] = x
    · rw [if_pos h, if_pos h, if_pos (by omega), if_neg (by omega)]
      congr 2 <;> omega
    · rw [if_neg h, if_neg h, w_id (by omega) (by omega), show ((i : Int) + 1) = ((i + 1 : Nat) : Int) by omega, ih k (i + 1) (by omega) (by omega)]
      by_cases h2 : idx (w.drop (i + 1)) x < 0
      · rw [if_pos h2, if_pos h2, if_pos (by omega)]
      · rw [if_neg h2, if_neg h2, if_neg (by omega)]
        congr 2
        omega
theorem places_one (w : List Int) (hx : w.length ≤ 1000000000) (x : Int) : ∀ (d k i : Nat), i + d = w.length → d < k →
    spec_l18Places.l0 k w x (-1) (i : Int) = some (if idx (w.drop i) x < 0 then (-1, -1) else if idx (w.drop (i + (idx (w.drop i) x).toNat + 1)) x < 0 then (-1, -1) else (i + idx (w.drop i) x, i + idx (w.drop i) x + 1 + idx (w.drop (i + (idx (w.drop i) x).toNat + 1)) x)) := by
  intro d
  induction d with
  | zero =>
    intro k i hi hk
    obtain ⟨k, rfl⟩ : ∃ m, k = m + 1 := ⟨k - 1, by omega⟩
    simp only [spec_l18Places.l0]
    rw [if_neg (by omega), List.drop_of_length_le (show w.length ≤ i by omega)]
    rfl
  | succ d ih =>
    intro k i hi hk
    obtain ⟨k, rfl⟩ : ∃ m, k = m + 1 := ⟨k - 1, by omega⟩
    have hlt : i < w.length := by omega
    have hd := List.drop_eq_getElem_cons hlt
    simp only [spec_l18Places.l0]
    rw [if_pos (by omega), if_pos (by omega), rd_nat w i hlt]
    by_cases h : w[i] = x
    · have e : idx (w.drop i) x = 0 := by rw [hd, idx, if_pos h]
      rw [if_pos h, if_neg (by omega), w_id (by omega) (by omega), show ((i : Int) + 1) = ((i + 1 : Nat) : Int) by omega, places_two w hx x (i : Int) (by omega) d k (i + 1) (by omega) (by omega), e]
      simp only [Int.lt_irrefl, if_false, Int.toNat_zero, Nat.add_zero, Int.add_zero]
      by_cases h2 : idx (w.drop (i + 1)) x < 0
      · rw [if_pos h2, if_pos h2]
      · rw [if_neg h2, if_neg h2]
        congr 2 <;> omega
    · rw [if_neg h, w_id (by omega) (by omega), show ((i : Int) + 1) = ((i + 1 : Nat) : Int) by omega, ih k (i + 1) (by omega) (by omega)]
      by_cases h2 : idx (w.drop (i + 1)) x < 0
      · have e : idx (w.drop i) x = -1 := by rw [hd, idx, if_neg h, if_pos h2]
        rw [if_pos h2, e, if_pos (by omega)]
      · have e : idx (w.drop i) x = idx (w.drop (i + 1)) x + 1 := by rw [hd, idx, if_neg h, if_neg h2]
        rw [if_neg h2, e, if_neg (show ¬ (idx (w.drop (i + 1)) x + 1 < 0) by omega)]
        rw [show i + (idx (w.drop (i + 1)) x + 1).toNat + 1 = i + 1 + (idx (w.drop (i + 1)) x).toNat + 1 by omega]
        by_cases h3 : idx (w.drop (i + 1 + (idx (w.drop (i + 1)) x).toNat + 1)) x < 0
        · rw [if_pos h3, if_pos h3]
        · rw [if_neg h3, if_neg h3]
          congr 2 <;> omega
theorem spec_places (w : List Int) (hx : w.length ≤ 1000000000) (x : Int) (k : Nat) (hk : w.length < k) : spec_l18Places.f k w x = some (pl w x) := by
  unfold spec_l18Places.f
  have h := places_one w hx x w.length k 0 (by omega) hk
  rw [List.drop_zero] at h
  rw [show ((0 : Int)) = ((0 : Nat) : Int) from rfl, h]
  unfold pl
  congr 1
  split
  · rfl
  · rw [show 0 + (idx w x).toNat + 1 = (idx w x).toNat + 1 by omega]
    split
    · rfl
    · congr 1 <;> omega
theorem cnt_pos_eq {w : List Int} (hw : ∀ y ∈ w, 1 ≤ y) {x : Int} : x ∉ w → 1 ≤ x → cnt w x = 0 := by
  intro h hx
  by_cases h0 : cnt w x = 0
  · exact h0
  · obtain ⟨y, hy, e⟩ := (cnt_ne w x).1 h0
    have := hw y hy
    have e2 : y = x := by omega
    rw [e2] at hy
    exact absurd hy h
/-- In a word in which a letter occurs twice or not at all, its second place is there if the first is. -/
theorem second {w : List Int} (hw : ∀ y ∈ w, 1 ≤ y) {x : Int} (hc : x ∈ w → cnt w x = 2) (h : 0 ≤ idx w x) : 0 ≤ idx (w.drop ((idx w x).toNat + 1)) x := by
  rcases idx_bd w x with hb | hb
  · omega
  · have hlt : (idx w x).toNat < w.length := by omega
    have hat := idx_at w x h hlt
    have hm := (idx_mem w x).1 h
    have hx := hw x hm
    rcases Int.lt_or_le (idx (w.drop ((idx w x).toNat + 1)) x) 0 with h2 | h2
    · exfalso
      have n1 : x ∉ w.drop ((idx w x).toNat + 1) := fun hm2 => by have := (idx_mem _ _).2 hm2; omega
      have n2 : x ∉ w.take (idx w x).toNat := by
        intro hm2
        obtain ⟨j, hj, e⟩ := List.getElem_of_mem hm2
        rw [List.length_take] at hj
        rw [List.getElem_take] at e
        exact idx_before w x j (by omega) (by omega) e
      have e : w = w.take (idx w x).toNat ++ (x :: w.drop ((idx w x).toNat + 1)) := by
        conv => lhs; rw [← List.take_append_drop (idx w x).toNat w]
        rw [List.drop_eq_getElem_cons hlt, hat]
      have c1 := cnt_pos_eq (fun y hy => hw y (List.mem_of_mem_drop hy)) n1 hx
      have c2 := cnt_pos_eq (fun y hy => hw y (List.mem_of_mem_take hy)) n2 hx
      have c3 := hc hm
      rw [e, cnt_append, cnt, c1, c2] at c3
      split at c3 <;> omega
    · exact h2
theorem impl_places (w : List Int) (hx : w.length ≤ 1000000) (x : Int) (hw : ∀ y ∈ w, 1 ≤ y) (hc : x ∈ w → cnt w x = 2) (k : Nat) (hk : w.length < k) : impl_placesOf.f k w x = some (pl w x) := by
  unfold impl_placesOf.f pl
  rw [indexOf_eq w (by omega) x k hk, Option.bind_some]
  rcases idx_bd w x with hb | hb
  · rw [hb, w_id (by omega) (by omega)]
    rw [if_pos (by omega), if_pos (by omega), show ((-1 : Int) + 1).toNat = 0 from rfl, List.drop_zero, indexOf_eq w (by omega) x k hk, Option.bind_some, hb, if_pos (by omega), w_id (by omega) (by omega)]
    rfl
  · have h2 := second hw hc hb.1
    rw [w_id (by omega) (by omega), if_pos (by omega), if_pos (by omega), show (idx w x + 1).toNat = (idx w x).toNat + 1 by omega, indexOf_eq _ (by rw [List.length_drop]; omega) x k (by rw [List.length_drop]; omega), Option.bind_some]
    have hb2 := idx_bd (w.drop ((idx w x).toNat + 1)) x
    rw [List.length_drop] at hb2
    rw [w_id (by omega) (by omega), if_neg (by omega), if_neg (by omega)]
def lk (w : List Int) (x y : Int) : Bool := (decide ((pl w x).1 < (pl w y).1 ∧ (pl w y).1 < (pl w x).2)) != (decide ((pl w x).1 < (pl w y).2 ∧ (pl w y).2 < (pl w x).2))
theorem spec_lk (w : List Int) (hx : w.length ≤ 1000000) (x y : Int) (k : Nat) (hk : w.length < k) : spec_l18Linked.f k w x y = some (lk w x y) := by
  unfold spec_l18Linked.f lk
  rw [spec_places w (by omega) x k hk, spec_places w (by omega) y k hk, Option.bind_some, Option.bind_some]
  by_cases h1 : (pl w x).1 < (pl w y).1 <;> by_cases h2 : (pl w x).1 < (pl w y).2 <;> simp [h1, h2]
theorem impl_lk (w : List Int) (hx : w.length ≤ 1000000) (x y : Int) (hw : ∀ y ∈ w, 1 ≤ y) (hc : ∀ z ∈ w, cnt w z = 2) (k : Nat) (hk : w.length < k) : impl_linked.f k w x y = some (lk w x y) := by
  unfold impl_linked.f lk
  rw [impl_places w hx x hw (hc x) k hk, impl_places w hx y hw (hc y) k hk, Option.bind_some, Option.bind_some]
  by_cases h1 : (pl w x).1 < (pl w y).1 <;> by_cases h2 : (pl w x).1 < (pl w y).2 <;> simp [h1, h2]
theorem cw_pos {w : List Int} (h : cw w = true) : ∀ y ∈ w, 1 ≤ y := fun y hy => ((cw_true h).2 y hy).1.1
theorem cw_two {w : List Int} (h : cw w = true) : ∀ y ∈ w, cnt w y = 2 := fun y hy => ((cw_true h).2 y hy).2
theorem cw_mem {w : List Int} (h : cw w = true) (x : Int) : (x ∈ w) ↔ (1 ≤ x ∧ cnt w x = 2) := by
  constructor
  · intro hx; exact ⟨cw_pos h x hx, cw_two h x hx⟩
  · rintro ⟨h1, h2⟩
    obtain ⟨y, hy, e⟩ := (cnt_ne w x).1 (by omega)
    have := cw_pos h y hy
    have e2 : y = x := by omega
    rw [← e2]
    exact hy
def linkR (w : List Int) (x y : Int) : Bool := cw w && decide (x ≠ y ∧ x ∈ w ∧ y ∈ w) && lk w x y
theorem spec_linked (w : List Int) (hx : w.length ≤ 1048576) (x y : Int) (k : Nat) (hk : 1048577 < k) : spec_AreLinked.f k w x y = some (linkR w x y) := by
  unfold spec_AreLinked.f linkR
  rw [spec_cw w hx k hk, Option.bind_some]
  by_cases h : cw w = true
  · obtain ⟨h1, h2⟩ := cw_true h
    rw [if_pos h, spec_count w (by omega) (cw_small h) x k (by omega), spec_count w (by omega) (cw_small h) y k (by omega), Option.bind_some, Option.bind_some, spec_lk w (by omega) x y k (by omega), h]
    by_cases h3 : x = y
    · rw [if_pos h3, decide_eq_false (fun h => h.1 h3)]; rfl
    · rw [if_neg h3]
      by_cases h4 : cnt w x = 2
      · rw [if_pos h4]
        by_cases h5 : cnt w y = 2
        · rw [if_pos h5]
          by_cases h6 : x < 1
          · rw [if_pos h6, decide_eq_false (fun h' => by have := (cw_mem h x).1 h'.2.1; omega)]; rfl
          · rw [if_neg h6]
            by_cases h7 : y < 1
            · rw [if_pos h7, decide_eq_false (fun h' => by have := (cw_mem h y).1 h'.2.2; omega)]; rfl
            · rw [if_neg h7, decide_eq_true ⟨h3, (cw_mem h x).2 ⟨by omega, h4⟩, (cw_mem h y).2 ⟨by omega, h5⟩⟩]
              rfl
        · rw [if_neg h5, decide_eq_false (fun h' => h5 ((cw_mem h y).1 h'.2.2).2)]; rfl
      · rw [if_neg h4, decide_eq_false (fun h' => h4 ((cw_mem h x).1 h'.2.1).2)]; rfl
  · rw [if_neg h, Bool.eq_false_iff.2 h]; rfl
theorem impl_linkedA (w : List Int) (hx : w.length ≤ 1048576) (x y : Int) (k : Nat) (hk : 1048577 < k) : impl_AreLinked.f k w x y = some (linkR w x y) := by
  unfold impl_AreLinked.f linkR
  rw [impl_cw w hx k hk, Option.bind_some]
  by_cases h : cw w = true
  · obtain ⟨h1, h2⟩ := cw_true h
    rw [if_pos h, indexOf_eq w (by omega) x k (by omega), indexOf_eq w (by omega) y k (by omega), Option.bind_some, Option.bind_some, impl_lk w (by omega) x y (cw_pos h) (cw_two h) k (by omega), h]
    have hx1 := idx_mem w x
    have hy1 := idx_mem w y
    by_cases h3 : x = y
    · rw [if_pos h3, decide_eq_false (fun h => h.1 h3)]; rfl
    · rw [if_neg h3]
      by_cases h4 : idx w x ≥ 0
      · rw [if_pos h4]
        by_cases h5 : idx w y ≥ 0
        · rw [if_pos h5, decide_eq_true ⟨h3, hx1.1 h4, hy1.1 h5⟩]; rfl
        · rw [if_neg h5, decide_eq_false (fun h' => h5 (hy1.2 h'.2.2))]; rfl
      · rw [if_neg h4, decide_eq_false (fun h' => h4 (hx1.2 h'.2.1))]; rfl
  · rw [if_neg h, Bool.eq_false_iff.2 h]; rfl
end Go.Proofs.Ytfcdomcnkeeffaa.L
