/- What the program's and the reference's maps of crossing words are; no condition but the number of rounds. -/
import Derived.Test.YtfcdomcnkeeffaaPx10
import Derived.Test.YtfcdomcnkeeffaaPx11
import Derived.Test.YtfcdomcnkeeffaaPx12
import Derived.Test.YtfcdomcnkeeffaaPx27
import Derived.Test.YtfcdomcnkeeffaaLRow
namespace Go.Proofs.Ytfcdomcnkeeffaa.L
open Go.RowKit Go.Proofs.Ytfcdomcnkeeffaa.P Go.Proofs.Ytfcdomcnkeeffaa.Help Go.Proofs.YtfcdomcnkeeffaaW.PrintWords
set_option linter.unusedVariables false
set_option linter.unusedSimpArgs false

theorem divmodC {a b q r : Int} (hb : 0 < b) (h : r + b * q = a) (h0 : 0 ≤ r) (h1 : r < b) : a / b = q ∧ a % b = r := (Int.ediv_emod_unique hb).2 ⟨h, h0, h1⟩
/-- The place ahead, around. -/
def pr (p n : Int) : Int := if p = 0 then n - 1 else p - 1
theorem pr_bd {p n : Int} (h0 : 0 ≤ p) (h1 : p < n) : 0 ≤ pr p n ∧ pr p n < n := by
  unfold pr
  split <;> omega
theorem pr_inj {p q n : Int} (h0 : 0 ≤ p ∧ p < n) (h1 : 0 ≤ q ∧ q < n) (h : p ≠ q) : pr p n ≠ pr q n := by
  unfold pr
  split <;> split <;> omega
theorem pr_spec {p n : Int} (h0 : 0 ≤ p) (h1 : p < n) : (p + n - 1).tmod n = pr p n := by
  rw [Int.tmod_eq_emod_of_nonneg (by omega)]
  unfold pr
  by_cases h : p = 0
  · rw [if_pos h]
    exact (divmodC (q := 0) (by omega) (by omega) (by omega) (by omega)).2
  · rw [if_neg h]
    exact (divmodC (q := 1) (by omega) (by omega) (by omega) (by omega)).2
theorem pr_impl {p n : Int} (h0 : 0 ≤ p) (h1 : p < n) (h2 : 2 ≤ n) (h3 : n ≤ 100) : impl_mod.f (p - 1) n = some (pr p n) := by
  unfold impl_mod.f pr
  rw [if_neg (by omega)]
  by_cases h : p = 0
  · have e : (p - 1).tmod n = -1 := by
      rw [h, show (0 : Int) - 1 = -1 by omega, Int.neg_tmod]
      congr 1
      exact Int.tmod_eq_of_lt (by omega) (by omega)
    rw [if_pos h, e, if_pos (by omega), w_id (by omega) (by omega)]
    congr 1
    omega
  · have e : (p - 1).tmod n = p - 1 := Int.tmod_eq_of_lt (by omega) (by omega)
    rw [if_neg h, e, if_neg (by omega)]
/-- Four darts in a ring. -/
def ring4 (m : List Int) (a b c d : Int) : List Int := (((m.set a.toNat b).set b.toNat c).set c.toNat d).set d.toNat a
theorem ring4_len (m : List Int) (a b c d : Int) : (ring4 m a b c d).length = m.length := by simp [ring4]
theorem spec_ring (m : List Int) (a b c d : Int) (ha : 0 ≤ a ∧ a < m.length) (hb : 0 ≤ b ∧ b < m.length) (hc : 0 ≤ c ∧ c < m.length) (hd : 0 ≤ d ∧ d < m.length) (k : Nat) (hk : 5 < k) : spec_l7Ring.f k m [a, b, c, d] = some (ring4 m a b c d) := by
  obtain ⟨k, rfl⟩ : ∃ m, k = m + 5 := ⟨k - 5, by omega⟩
  have e0 : Int.tmod (wrap64 (0 + 1)) 4 = 1 := by decide +kernel
  have e1 : Int.tmod (wrap64 (1 + 1)) 4 = 2 := by decide +kernel
  have e2 : Int.tmod (wrap64 (2 + 1)) 4 = 3 := by decide +kernel
  have e3 : Int.tmod (wrap64 (3 + 1)) 4 = 0 := by decide +kernel
  have w0 : wrap64 (0 + 1) = 1 := by decide +kernel
  have w1 : wrap64 (1 + 1) = 2 := by decide +kernel
  have w2 : wrap64 (2 + 1) = 3 := by decide +kernel
  have w3 : wrap64 (3 + 1) = 4 := by decide +kernel
  have r0 : rd [a, b, c, d] 0 = a := rfl
  have r1 : rd [a, b, c, d] 1 = b := rfl
  have r2 : rd [a, b, c, d] 2 = c := rfl
  have r3 : rd [a, b, c, d] 3 = d := rfl
  have l4 : (([a, b, c, d] : List Int).length : Int) = 4 := rfl
  unfold spec_l7Ring.f ring4
  rw [show k + 5 = (k + 4) + 1 from rfl]; unfold spec_l7Ring.l0
  rw [l4, e0, w0, r0, r1, if_pos (by decide), if_pos (by decide), if_neg (by decide), if_pos (by decide), if_pos (by decide), if_pos ha.1, if_pos ha.2]
  rw [show k + 4 = (k + 3) + 1 from rfl]; unfold spec_l7Ring.l0
  rw [l4, e1, w1, r1, r2, if_pos (by decide), if_pos (by decide), if_neg (by decide), if_pos (by decide), if_pos (by decide), if_pos hb.1, if_pos (by rw [List.length_set]; exact hb.2)]
  rw [show k + 3 = (k + 2) + 1 from rfl]; unfold spec_l7Ring.l0
  rw [l4, e2, w2, r2, r3, if_pos (by decide), if_pos (by decide), if_neg (by decide), if_pos (by decide), if_pos (by decide), if_pos hc.1, if_pos (by rw [List.length_set, List.length_set]; exact hc.2)]
  rw [show k + 2 = (k + 1) + 1 from rfl]; unfold spec_l7Ring.l0
  rw [l4, e3, w3, r3, r0, if_pos (by decide), if_pos (by decide), if_neg (by decide), if_pos (by decide), if_pos (by decide), if_pos hd.1, if_pos (by rw [List.length_set, List.length_set, List.length_set]; exact hd.2)]
  unfold spec_l7Ring.l0
  rw [l4, if_neg (by decide)]
/-- The bit of a set for a letter. -/
def bitOf (s x : Int) : Int := Go.bits .and .i64 (shr .i64 s (x - 1)) 1
/-- One crossing told. -/
def crossM (w : List Int) (s : Int) (m : List Int) (x : Int) : List Int :=
  if (pl w x).1 < 0 then m
  else if bitOf s x = 1 then ring4 m (2 * pr (pl w x).2 w.length + 1) (2 * pr (pl w x).1 w.length + 1) (2 * (pl w x).2) (2 * (pl w x).1)
  else ring4 m (2 * (pl w x).1) (2 * (pl w x).2) (2 * pr (pl w x).1 w.length + 1) (2 * pr (pl w x).2 w.length + 1)
theorem crossM_len (w : List Int) (s : Int) (m : List Int) (x : Int) : (crossM w s m x).length = m.length := by
  unfold crossM
  repeat' split
  all_goals first | rfl | exact ring4_len _ _ _ _ _
theorem pl_bd (w : List Int) (x : Int) : (pl w x = (-1, -1)) ∨ ((0 ≤ (pl w x).1 ∧ (pl w x).1 < (pl w x).2) ∧ (pl w x).2 < w.length) := by
  unfold pl
  rcases idx_bd w x with h | h
  · left; rw [h]; rfl
  · rw [if_neg (by omega)]
    rcases idx_bd (w.drop ((idx w x).toNat + 1)) x with h2 | h2
    · left; rw [h2]; rfl
    · right
      rw [List.length_drop] at h2
      rw [if_neg (by omega)]
      simp only
      omega
def mapF (w : List Int) (s : Int) : Nat → Nat → List Int → List Int
  | 0, _, m => m
  | n + 1, i, m => mapF w s n (i + 1) (crossM w s m (i : Int))
theorem u64_w {n : Int} (h0 : 0 ≤ n) (h1 : n ≤ 18446744073709551615) : IntKind.u64.wrap n = n := by
  simp only [IntKind.wrap, IntKind.bits, IntKind.signed, Bool.false_and, Bool.false_eq_true, if_false]
  omega
theorem spec_map_l0 (w : List Int) (s : Int) (hx : 2 ≤ w.length ∧ w.length ≤ 12) : ∀ (d k i : Nat) (m : List Int), i + d = 9 → 1 ≤ i → d + 50 < k → m.length = 2 * w.length → spec_l18Map.l0 k w s (w.length : Int) m (i : Int) = some (mapF w s d i m) := by
  intro d
  induction d with
  | zero =>
    intro k i m hi hi1 hk hm
    obtain ⟨k, rfl⟩ : ∃ m, k = m + 1 := ⟨k - 1, by omega⟩
    unfold spec_l18Map.l0
    rw [if_neg (by omega)]
    rfl
  | succ d ih =>
    intro k i m hi hi1 hk hm
    obtain ⟨k, rfl⟩ : ∃ m, k = m + 1 := ⟨k - 1, by omega⟩
    unfold spec_l18Map.l0
    rw [if_pos (by omega), spec_places w (by omega) _ k (by omega), Option.bind_some, w_id (a := (i : Int) + 1) (by omega) (by omega), show ((i : Int) + 1) = ((i + 1 : Nat) : Int) by omega]
    simp only [mapF]
    have hlen := crossM_len w s m (i : Int)
    rcases pl_bd w (i : Int) with h | ⟨h1, h2⟩
    · have e : crossM w s m (i : Int) = m := by
        unfold crossM
        rw [h]
        rfl
      rw [h, if_pos (by decide), e, ih k (i + 1) m (by omega) (by omega) (by omega) hm]
    · have p1 := pr_bd h1.1 (show (pl w (i : Int)).1 < (w.length : Int) by omega)
      have p2 := pr_bd (show 0 ≤ (pl w (i : Int)).2 by omega) h2
      have hc : ∀ m', m' = crossM w s m (i : Int) → spec_l18Map.l0 k w s (w.length : Int) m' ((i + 1 : Nat) : Int) = some (mapF w s d (i + 1) (crossM w s m (i : Int))) := by
        intro m' e
        rw [e]
        exact ih k (i + 1) _ (by omega) (by omega) (by omega) (by omega)
      rw [if_neg (by omega), if_neg (by omega)]
      simp only [Option.bind_some]
      rw [w_id (a := 2 * (pl w (i : Int)).1) (by omega) (by omega), w_id (a := 2 * (pl w (i : Int)).2) (by omega) (by omega), w_id (a := (pl w (i : Int)).1 + w.length) (by omega) (by omega), w_id (a := (pl w (i : Int)).1 + w.length - 1) (by omega) (by omega), pr_spec h1.1 (by omega),
        w_id (a := (pl w (i : Int)).2 + w.length) (by omega) (by omega), w_id (a := (pl w (i : Int)).2 + w.length - 1) (by omega) (by omega), pr_spec (show 0 ≤ (pl w (i : Int)).2 by omega) h2, w_id (a := 2 * pr (pl w (i : Int)).1 w.length) (by omega) (by omega), w_id (a := 2 * pr (pl w (i : Int)).2 w.length) (by omega) (by omega),
        w_id (a := 2 * pr (pl w (i : Int)).1 w.length + 1) (by omega) (by omega), w_id (a := 2 * pr (pl w (i : Int)).2 w.length + 1) (by omega) (by omega), w_id (a := (i : Int) - 1) (by omega) (by omega), u64_w (by omega) (by omega), if_pos (by omega)]
      by_cases hb : bitOf s (i : Int) = 1
      · rw [if_pos (show Go.bits .and .i64 (shr .i64 s ((i : Int) - 1)) 1 = 1 from hb), if_pos (by rw [List.length_cons, List.length_cons, List.length_cons, List.length_singleton]; decide), if_pos (by rw [List.length_cons, List.length_cons, List.length_cons, List.length_singleton]; decide), if_pos (by rw [List.length_cons, List.length_cons, List.length_cons, List.length_singleton]; decide), if_pos (by rw [List.length_cons, List.length_cons, List.length_cons, List.length_singleton]; decide)]
        rw [show ∀ a b c d : Int, rd [a, b, c, d] 3 = d from fun _ _ _ _ => rfl, show ∀ a b c d : Int, rd [a, b, c, d] 2 = c from fun _ _ _ _ => rfl, show ∀ a b c d : Int, rd [a, b, c, d] 1 = b from fun _ _ _ _ => rfl, show ∀ a b c d : Int, rd [a, b, c, d] 0 = a from fun _ _ _ _ => rfl]
        rw [spec_ring m _ _ _ _ (by omega) (by omega) (by omega) (by omega) k (by omega), Option.bind_some]
        apply hc
        unfold crossM
        rw [if_neg (by omega), if_pos hb]
      · rw [if_neg (show ¬ Go.bits .and .i64 (shr .i64 s ((i : Int) - 1)) 1 = 1 from hb), spec_ring m _ _ _ _ (by omega) (by omega) (by omega) (by omega) k (by omega), Option.bind_some]
        apply hc
        unfold crossM
        rw [if_neg (by omega), if_neg hb]
def mapR (w : List Int) (s : Int) : List Int := mapF w s 8 1 (List.replicate (2 * w.length) 0)
theorem mapF_len (w : List Int) (s : Int) : ∀ n i m, (mapF w s n i m).length = m.length
  | 0, _, _ => rfl
  | n + 1, i, m => by rw [mapF, mapF_len w s n, crossM_len]
theorem mapR_len (w : List Int) (s : Int) : (mapR w s).length = 2 * w.length := by
  unfold mapR
  rw [mapF_len]
  simp
theorem spec_map (w : List Int) (s : Int) (hx : 2 ≤ w.length ∧ w.length ≤ 12) (k : Nat) (hk : 60 < k) : spec_l18Map.f k w s = some (mapR w s) := by
  unfold spec_l18Map.f mapR
  rw [w_id (by omega) (by omega), if_pos (by omega), if_pos (by omega), show (2 * (w.length : Int)).toNat = 2 * w.length by omega]
  exact spec_map_l0 w s hx 8 k 1 _ (by omega) (by omega) (by omega) (by simp)
theorem set3 (m : List Int) {i j k : Nat} (x y z : Int) (h1 : i ≠ j) (h2 : i ≠ k) (h3 : j ≠ k) : ((m.set i x).set j y).set k z = ((m.set k z).set j y).set i x := by
  apply List.ext_getElem
  · simp
  · intro n h4 h5
    simp only [List.getElem_set]
    repeat' split
    all_goals first | rfl | omega
theorem impl_map_l1 (w : List Int) (s : Int) (n : Int) (a b c d : Int) (x : Int) (L : List Int) (LL j : Int) (m : List Int) (hx : 1 ≤ x ∧ x ≤ 8) (hj : 0 ≤ j ∧ j ≤ 100) (ha : 0 ≤ a ∧ a < m.length) (hb : 0 ≤ b ∧ b < m.length) (hc : 0 ≤ c ∧ c < m.length) (hd : 0 ≤ d ∧ d < m.length)
    (hne : a ≠ b ∧ a ≠ c ∧ a ≠ d ∧ b ≠ c ∧ b ≠ d ∧ c ≠ d) (k : Nat) :
    impl_crossingMap.l1 (k + 5) w s n m x [a, b, c, d] L LL j 0 = impl_crossingMap.l0 k w s n (if bitOf s x = 1 then ring4 m d c b a else ring4 m a b c d) L LL (j + 1) := by
  have e0 : Int.tmod (wrap64 (0 + 1)) 4 = 1 := by decide +kernel
  have e1 : Int.tmod (wrap64 (1 + 1)) 4 = 2 := by decide +kernel
  have e2 : Int.tmod (wrap64 (2 + 1)) 4 = 3 := by decide +kernel
  have e3 : Int.tmod (wrap64 (3 + 1)) 4 = 0 := by decide +kernel
  have w0 : wrap64 (0 + 1) = 1 := by decide +kernel
  have w1 : wrap64 (1 + 1) = 2 := by decide +kernel
  have w2 : wrap64 (2 + 1) = 3 := by decide +kernel
  have w3 : wrap64 (3 + 1) = 4 := by decide +kernel
  have r0 : rd [a, b, c, d] 0 = a := rfl
  have r1 : rd [a, b, c, d] 1 = b := rfl
  have r2 : rd [a, b, c, d] 2 = c := rfl
  have r3 : rd [a, b, c, d] 3 = d := rfl
  have l4 : (([a, b, c, d] : List Int).length : Int) = 4 := rfl
  have hw : wrap64 (x - 1) = x - 1 := w_id (by omega) (by omega)
  have hj1 : wrap64 (j + 1) = j + 1 := w_id (by omega) (by omega)
  have hL : ∀ (m' : List Int) (k' : Nat), impl_crossingMap.l1 (k' + 1) w s n m' x [a, b, c, d] L LL j 4 = impl_crossingMap.l0 k' w s n m' L LL (j + 1) := by
    intro m' k'
    conv => lhs; unfold impl_crossingMap.l1
    rw [if_neg (by decide), hj1]
  by_cases hbit : bitOf s x = 1
  · have hB : Go.bits .and .i64 (shr .i64 s (x - 1)) 1 = 1 := hbit
    have step : ∀ (m' : List Int) (k' : Nat) (i i' : Int), 0 ≤ i → i < 4 → 0 ≤ i' → i' < 4 → Int.tmod (wrap64 (i + 1)) 4 = i' → 0 ≤ rd [a, b, c, d] i' → rd [a, b, c, d] i' < m'.length →
        impl_crossingMap.l1 (k' + 1) w s n m' x [a, b, c, d] L LL j i = impl_crossingMap.l1 k' w s n (m'.set (rd [a, b, c, d] i').toNat (rd [a, b, c, d] i)) x [a, b, c, d] L LL j (wrap64 (i + 1)) := by
      intro m' k' i i' h0 h1 h2 h3 he h4 h5
      conv => lhs; unfold impl_crossingMap.l1
      rw [l4, he, hw, if_pos h1, if_pos h0, if_pos h1, if_pos h2, if_pos h3, if_pos (by omega), if_pos hB, if_pos h4, if_pos h5]
    rw [if_pos hbit, step m (k + 4) 0 1 (by decide) (by decide) (by decide) (by decide) e0 (by rw [r1]; exact hb.1) (by rw [r1]; exact hb.2), w0, r1, r0,
      step _ (k + 3) 1 2 (by decide) (by decide) (by decide) (by decide) e1 (by rw [r2]; exact hc.1) (by rw [r2, List.length_set]; exact hc.2), w1, r2, r1,
      step _ (k + 2) 2 3 (by decide) (by decide) (by decide) (by decide) e2 (by rw [r3]; exact hd.1) (by rw [r3, List.length_set, List.length_set]; exact hd.2), w2, r3, r2,
      step _ (k + 1) 3 0 (by decide) (by decide) (by decide) (by decide) e3 (by rw [r0]; exact ha.1) (by rw [r0, List.length_set, List.length_set, List.length_set]; exact ha.2), w3, r0, r3, hL]
    unfold ring4
    rw [set3 m (i := d.toNat) (j := c.toNat) (k := b.toNat) _ _ _ (by omega) (by omega) (by omega)]
  · have hB : ¬ Go.bits .and .i64 (shr .i64 s (x - 1)) 1 = 1 := hbit
    have step : ∀ (m' : List Int) (k' : Nat) (i i' : Int), 0 ≤ i → i < 4 → 0 ≤ i' → i' < 4 → Int.tmod (wrap64 (i + 1)) 4 = i' → 0 ≤ rd [a, b, c, d] i → rd [a, b, c, d] i < m'.length →
        impl_crossingMap.l1 (k' + 1) w s n m' x [a, b, c, d] L LL j i = impl_crossingMap.l1 k' w s n (m'.set (rd [a, b, c, d] i).toNat (rd [a, b, c, d] i')) x [a, b, c, d] L LL j (wrap64 (i + 1)) := by
      intro m' k' i i' h0 h1 h2 h3 he h4 h5
      conv => lhs; unfold impl_crossingMap.l1
      rw [l4, he, hw, if_pos h1, if_pos h0, if_pos h1, if_pos h2, if_pos h3, if_pos (by omega), if_neg hB, if_pos h4, if_pos h5]
    rw [if_neg hbit, step m (k + 4) 0 1 (by decide) (by decide) (by decide) (by decide) e0 (by rw [r0]; exact ha.1) (by rw [r0]; exact ha.2), w0, r1, r0,
      step _ (k + 3) 1 2 (by decide) (by decide) (by decide) (by decide) e1 (by rw [r1]; exact hb.1) (by rw [r1, List.length_set]; exact hb.2), w1, r2, r1,
      step _ (k + 2) 2 3 (by decide) (by decide) (by decide) (by decide) e2 (by rw [r2]; exact hc.1) (by rw [r2, List.length_set, List.length_set]; exact hc.2), w2, r3, r2,
      step _ (k + 1) 3 0 (by decide) (by decide) (by decide) (by decide) e3 (by rw [r3]; exact hd.1) (by rw [r3, List.length_set, List.length_set, List.length_set]; exact hd.2), w3, r0, r3, hL]
    rfl
theorem impl_map_l0 {w : List Int} (h : cw w = true) (s : Int) (L : List Int) (hL : L.length ≤ 20) (hLw : ∀ x ∈ L, x ∈ w) : ∀ (d k i : Nat) (m : List Int), i + d = L.length → 8 * d + 50 < k → m.length = 2 * w.length → impl_crossingMap.l0 k w s (w.length : Int) m L (L.length : Int) (i : Int) = some ((L.drop i).foldl (crossM w s) m) := by
  intro d
  obtain ⟨h1, hw⟩ := cw_true h
  induction d with
  | zero =>
    intro k i m hi hk hm
    obtain ⟨k, rfl⟩ : ∃ m, k = m + 1 := ⟨k - 1, by omega⟩
    conv => lhs; unfold impl_crossingMap.l0
    rw [if_neg (by omega), List.drop_of_length_le (by omega)]
    rfl
  | succ d ih =>
    intro k i m hi hk hm
    obtain ⟨k, rfl⟩ : ∃ m, k = m + 6 := ⟨k - 6, by omega⟩
    have hlt : i < L.length := by omega
    have hm1 := hLw L[i] (List.getElem_mem hlt)
    have hxb := hw L[i] hm1
    have hi0 : 0 ≤ idx w L[i] := (idx_mem w L[i]).2 hm1
    have hi2 := second (cw_pos h) (cw_two h L[i]) hi0
    have hpl : ¬ (pl w L[i]).1 < 0 := by
      unfold pl
      rw [if_neg (by omega), if_neg (by omega)]
      simp only
      omega
    rcases pl_bd w L[i] with hb | ⟨hb1, hb2⟩
    · rw [hb] at hpl; simp at hpl
    have p1 := pr_bd hb1.1 (show (pl w L[i]).1 < (w.length : Int) by omega)
    have p2 := pr_bd (show 0 ≤ (pl w L[i]).2 by omega) hb2
    have p3 := pr_inj (n := w.length) ⟨hb1.1, show (pl w L[i]).1 < (w.length : Int) by omega⟩ ⟨show 0 ≤ (pl w L[i]).2 by omega, hb2⟩ (by omega)
    rw [show k + 6 = (k + 5) + 1 from rfl]
    conv => lhs; unfold impl_crossingMap.l0
    rw [if_pos (by omega), if_pos (by omega), if_pos (by omega), rd_nat L i hlt, impl_places w (by omega) L[i] (cw_pos h) (cw_two h L[i]) _ (by omega), Option.bind_some, w_id (a := (pl w L[i]).1 - 1) (by omega) (by omega), w_id (a := (pl w L[i]).2 - 1) (by omega) (by omega),
      pr_impl hb1.1 (by omega) (by omega) (by omega), Option.bind_some, pr_impl (show 0 ≤ (pl w L[i]).2 by omega) hb2 (by omega) (by omega), Option.bind_some, w_id (a := 2 * (pl w L[i]).1) (by omega) (by omega), w_id (a := 2 * (pl w L[i]).2) (by omega) (by omega),
      w_id (a := 2 * pr (pl w L[i]).1 w.length) (by omega) (by omega), w_id (a := 2 * pr (pl w L[i]).2 w.length) (by omega) (by omega), w_id (a := 2 * pr (pl w L[i]).1 w.length + 1) (by omega) (by omega), w_id (a := 2 * pr (pl w L[i]).2 w.length + 1) (by omega) (by omega)]
    rw [impl_map_l1 w s (w.length : Int) _ _ _ _ L[i] L (L.length : Int) (i : Int) m hxb.1 (by omega) (by omega) (by omega) (by omega) (by omega) (by omega) k]
    have e : (if bitOf s L[i] = 1 then ring4 m (2 * pr (pl w L[i]).2 w.length + 1) (2 * pr (pl w L[i]).1 w.length + 1) (2 * (pl w L[i]).2) (2 * (pl w L[i]).1) else ring4 m (2 * (pl w L[i]).1) (2 * (pl w L[i]).2) (2 * pr (pl w L[i]).1 w.length + 1) (2 * pr (pl w L[i]).2 w.length + 1)) = crossM w s m L[i] := by
      unfold crossM
      rw [if_neg hpl]
    rw [e, show ((i : Int) + 1) = ((i + 1 : Nat) : Int) by omega, ih k (i + 1) _ (by omega) (by omega) (by rw [crossM_len]; exact hm), List.drop_eq_getElem_cons hlt]
    rfl
theorem crossM_none {w : List Int} (h : cw w = true) (s : Int) (m : List Int) {x : Int} (hc : ¬ cnt w x > 0) : crossM w s m x = m := by
  have hb := cnt_bd w x
  have hx : x ∉ w := fun hx => by have := cw_two h x hx; omega
  have hi : idx w x < 0 := by
    rcases Int.lt_or_le (idx w x) 0 with h2 | h2
    · exact h2
    · exact absurd ((idx_mem w x).1 h2) hx
  unfold crossM pl
  rw [if_pos hi, if_pos (by decide)]
theorem mapF_fold {w : List Int} (h : cw w = true) (s : Int) : ∀ n i m, mapF w s n i m = (lettersF w n i).foldl (crossM w s) m
  | 0, _, _ => rfl
  | n + 1, i, m => by
    rw [mapF, lettersF, mapF_fold h s n (i + 1)]
    split
    · rfl
    · rename_i hc
      rw [crossM_none h s m hc]
theorem letters_mem {w : List Int} (h : cw w = true) : ∀ x ∈ letters w, x ∈ w := by
  intro x hx
  have h1 := lettersF_pos 9 0 x hx
  have h2 := cw_cnt h x
  refine (cw_mem h x).2 ⟨?_, by omega⟩
  obtain ⟨y, hy, e⟩ := (cnt_ne w x).1 (by omega)
  have := cw_pos h y hy
  omega
theorem impl_map {w : List Int} (h : cw w = true) (s : Int) (k : Nat) (hk : 200 < k) : impl_crossingMap.f k w s = some (mapR w s) := by
  obtain ⟨h1, _⟩ := cw_true h
  have hll : (letters w).length ≤ 9 := lettersF_len w 9 0
  unfold impl_crossingMap.f mapR
  rw [w_id (by omega) (by omega), if_pos (by omega), if_pos (by omega), show (2 * (w.length : Int)).toNat = 2 * w.length by omega, impl_letters h k (by omega), Option.bind_some, mapF_fold h, ← letters_tail h]
  have := impl_map_l0 h s (letters w) (by omega) (letters_mem h) (letters w).length k 0 (List.replicate (2 * w.length) 0) (by omega) (by omega) (by simp)
  rw [List.drop_zero] at this
  exact this
def cmapR (w : List Int) (s : Int) : List Int × Bool := if cw w = true ∧ 0 ≤ s ∧ s ≤ 255 then (mapR w s, true) else ([], false)
theorem cmapR_len (w : List Int) (s : Int) : (cmapR w s).1.length ≤ 24 := by
  unfold cmapR
  split
  · rename_i h
    obtain ⟨h1, _⟩ := cw_true h.1
    rw [mapR_len]
    omega
  · simp
theorem spec_cmap (w : List Int) (hx : w.length ≤ 1048576) (s : Int) (k : Nat) (hk : 1048577 < k) : spec_CrossingMap.f k w s = some (cmapR w s) := by
  unfold spec_CrossingMap.f cmapR
  rw [spec_cw w hx k hk, Option.bind_some, l1In_eq, Option.bind_some]
  by_cases h : cw w = true
  · obtain ⟨h1, _⟩ := cw_true h
    rw [if_pos h]
    by_cases h2 : 0 ≤ s ∧ s ≤ 255
    · rw [if_pos (decide_eq_true h2), if_pos ⟨h, h2⟩, spec_map w s h1 k (by omega)]
      rfl
    · rw [if_neg (by simpa using h2), if_neg (fun h => h2 h.2)]
  · rw [if_neg h, if_neg (fun h' => h h'.1)]
theorem impl_cmap (w : List Int) (hx : w.length ≤ 1048576) (s : Int) (k : Nat) (hk : 1048577 < k) : impl_CrossingMap.f k w s = some (cmapR w s) := by
  unfold impl_CrossingMap.f cmapR
  rw [impl_cw w hx k hk, Option.bind_some, within_eq, Option.bind_some]
  by_cases h : cw w = true
  · rw [if_pos h]
    by_cases h2 : 0 ≤ s ∧ s ≤ 255
    · rw [if_pos (decide_eq_true h2), if_pos ⟨h, h2⟩, impl_map h s k (by omega)]
      rfl
    · rw [if_neg (by simpa using h2), if_neg (fun h => h2 h.2)]
  · rw [if_neg h, if_neg (fun h' => h h'.1)]
end Go.Proofs.Ytfcdomcnkeeffaa.L
