/- What IsFair computes in the program and in the reference; no condition but the number of rounds and the lengths. -/
import Derived.Test.YtcligopbieaceaaPx16
import Derived.Test.YtcligopbieaceaaPx17
import Derived.Test.YtcligopbieaceaaPx18
import Derived.Test.YtcligopbieaceaaLTriOk
import Derived.Test.YtcligopbieaceaaLCoord
import Derived.Test.YtcligopbieaceaaLAbs
namespace Go.Proofs.Ytcligopbieaceaa.L
open Go.RowKit Go.Proofs.Ytcligopbieaceaa.P Go.Proofs.Ytcligopbieaceaa.Help Go.Proofs.YtcligopbieaceaaW.PrintWords
set_option linter.unusedVariables false
set_option linter.unusedSimpArgs false

/-- A side's coordinate. -/
def crd (x : List Int) (s : Int) : Int := rd x ((s.natAbs : Int) - 1)
def fairRow (x : List Int) : List Int → Bool
  | [a, b, c] => decide ((crd x a + crd x b + crd x c) % 2 = 0 ∧ crd x a ≤ crd x b + crd x c ∧ crd x b ≤ crd x a + crd x c ∧ crd x c ≤ crd x a + crd x b)
  | _ => false
def isF (t : List (List Int)) (x : List Int) : Bool := isT t && (decide ((x.length : Int) = edges t) && (x.all co && t.all (fairRow x)))
theorem crd_bd {x : List Int} (hx : x.all co = true) (s : Int) : 0 ≤ crd x s ∧ crd x s ≤ 200 := by
  unfold crd rd
  rw [List.getD_eq_getElem?_getD]
  cases h : x[((s.natAbs : Int) - 1).toNat]? with
  | none => simp
  | some y =>
    have := List.all_eq_true.1 hx y (List.mem_of_getElem? h)
    unfold co at this
    simpa using this
/-- Twice the arcs at a corner. -/
def twR (x : List Int) (a b c : Int) : Int := crd x a + crd x b - crd x c
theorem twice_eq {t : List (List Int)} {n : Int} (ok : TriOk t n) {x : List Int} (hx : (x.length : Int) = n) (hc : x.all co = true) {i : Nat} (hi : i < t.length) {a b c : Int} (e : t[i] = [a, b, c]) :
    spec_l15Twice.f t x (i : Int) 0 = some (twR x a b c) ∧ spec_l15Twice.f t x (i : Int) 1 = some (twR x b c a) ∧ spec_l15Twice.f t x (i : Int) 2 = some (twR x c a b) := by
  have n9 := ok.n9
  have hm : ∀ y ∈ [a, b, c], y ≠ 0 ∧ -n ≤ y ∧ y ≤ n := by
    intro y hy
    rw [← e] at hy
    exact ok.inr y (List.mem_flatten.2 ⟨_, List.getElem_mem hi, hy⟩)
  have ha := hm a (by simp)
  have hb := hm b (by simp)
  have hcc := hm c (by simp)
  have A := crd_bd hc a
  have B := crd_bd hc b
  have C := crd_bd hc c
  have e0 : rd [a, b, c] 0 = a := rfl
  have e1 : rd [a, b, c] 1 = b := rfl
  have e2 : rd [a, b, c] 2 = c := rfl
  have q : ∀ y : Int, y ≠ 0 ∧ -n ≤ y ∧ y ≤ n → 0 ≤ (y.natAbs : Int) - 1 ∧ (y.natAbs : Int) - 1 < x.length ∧ wrap64 ((y.natAbs : Int) - 1) = (y.natAbs : Int) - 1 := fun y hy => ⟨by omega, by omega, w_id (by omega) (by omega)⟩
  obtain ⟨qa1, qa2, qa3⟩ := q a ha
  obtain ⟨qb1, qb2, qb3⟩ := q b hb
  obtain ⟨qc1, qc2, qc3⟩ := q c hcc
  have sa := l3Abs_eq (a := a) (by omega) (by omega)
  have sb := l3Abs_eq (a := b) (by omega) (by omega)
  have sc := l3Abs_eq (a := c) (by omega) (by omega)
  have l3 : (([a, b, c] : List Int).length : Int) = 3 := rfl
  have w01 : Int.tmod (wrap64 (0 + 1)) 3 = 1 := by decide +kernel
  have w02 : Int.tmod (wrap64 (0 + 2)) 3 = 2 := by decide +kernel
  have w11 : Int.tmod (wrap64 (1 + 1)) 3 = 2 := by decide +kernel
  have w12 : Int.tmod (wrap64 (1 + 2)) 3 = 0 := by decide +kernel
  have w21 : Int.tmod (wrap64 (2 + 1)) 3 = 0 := by decide +kernel
  have w22 : Int.tmod (wrap64 (2 + 2)) 3 = 1 := by decide +kernel
  have i0 : (0 : Int) ≤ (i : Int) := by omega
  have i1 : (i : Int) < (t.length : Int) := by omega
  refine ⟨?_, ?_, ?_⟩
  · unfold spec_l15Twice.f
    rw [if_pos i0, if_pos i1, rdL_nat t i hi, e, l3, w01, w02, if_pos (by decide), if_pos (by decide), e0, sa, Option.bind_some, qa3, if_pos qa1, if_pos qa2, if_pos (by decide), if_pos (by decide), e1, sb, Option.bind_some, qb3, if_pos qb1, if_pos qb2, if_pos (by decide), if_pos (by decide), e2, sc, Option.bind_some, qc3, if_pos qc1, if_pos qc2]
    unfold twR
    unfold crd at A B C ⊢
    rw [w_id (a := rd x _ + rd x _) (by omega) (by omega), w_id (by omega) (by omega)]
  · unfold spec_l15Twice.f
    rw [if_pos i0, if_pos i1, rdL_nat t i hi, e, l3, w11, w12, if_pos (by decide), if_pos (by decide), e1, sb, Option.bind_some, qb3, if_pos qb1, if_pos qb2, if_pos (by decide), if_pos (by decide), e2, sc, Option.bind_some, qc3, if_pos qc1, if_pos qc2, if_pos (by decide), if_pos (by decide), e0, sa, Option.bind_some, qa3, if_pos qa1, if_pos qa2]
    unfold twR
    unfold crd at A B C ⊢
    rw [w_id (a := rd x _ + rd x _) (by omega) (by omega), w_id (by omega) (by omega)]
  · unfold spec_l15Twice.f
    rw [if_pos i0, if_pos i1, rdL_nat t i hi, e, l3, w21, w22, if_pos (by decide), if_pos (by decide), e2, sc, Option.bind_some, qc3, if_pos qc1, if_pos qc2, if_pos (by decide), if_pos (by decide), e0, sa, Option.bind_some, qa3, if_pos qa1, if_pos qa2, if_pos (by decide), if_pos (by decide), e1, sb, Option.bind_some, qb3, if_pos qb1, if_pos qb2]
    unfold twR
    unfold crd at A B C ⊢
    rw [w_id (a := rd x _ + rd x _) (by omega) (by omega), w_id (by omega) (by omega)]
theorem spec_fair_l2 {t : List (List Int)} {n : Int} (ok : TriOk t n) {x : List Int} (hx : (x.length : Int) = n) (hc : x.all co = true) {i : Nat} (hi : i < t.length) (k : Nat) :
    spec_IsFair.l2 (k + 4) t x (i : Int) 0 = if fairRow x t[i] = true then spec_IsFair.l1 k t x (wrap64 ((i : Int) + 1)) else some false := by
  obtain ⟨a, b, c, e, _⟩ := ok.i64 (List.getElem_mem hi)
  obtain ⟨h0, h1, h2⟩ := twice_eq ok hx hc hi e
  have A := crd_bd hc a
  have B := crd_bd hc b
  have C := crd_bd hc c
  have hf : fairRow x t[i] = decide ((crd x a + crd x b + crd x c) % 2 = 0 ∧ crd x a ≤ crd x b + crd x c ∧ crd x b ≤ crd x a + crd x c ∧ crd x c ≤ crd x a + crd x b) := by rw [e]; rfl
  rw [hf]
  unfold twR at h0 h1 h2
  have no : ∀ (P : Prop) [Decidable P] (α : Type) (u v : α), ¬ P → (if decide P = true then u else v) = v := fun P _ α u v h => by simp [h]
  simp only [spec_IsFair.l2]
  rw [if_pos (by decide), h0, Option.bind_some]
  by_cases c0 : crd x a + crd x b - crd x c < 0
  · rw [if_pos c0, no _ _ _ _ (by omega)]
  · rw [if_neg c0, Int.tmod_eq_emod_of_nonneg (by omega)]
    by_cases d0 : (crd x a + crd x b - crd x c) % 2 = 0
    · rw [if_pos d0, show wrap64 (0 + 1) = 1 by decide +kernel]
      rw [if_pos (by decide), h1, Option.bind_some]
      by_cases c1 : crd x b + crd x c - crd x a < 0
      · rw [if_pos c1, no _ _ _ _ (by omega)]
      · rw [if_neg c1, Int.tmod_eq_emod_of_nonneg (by omega), if_pos (by omega), show wrap64 (1 + 1) = 2 by decide +kernel]
        rw [if_pos (by decide), h2, Option.bind_some]
        by_cases c2 : crd x c + crd x a - crd x b < 0
        · rw [if_pos c2, no _ _ _ _ (by omega)]
        · rw [if_neg c2, Int.tmod_eq_emod_of_nonneg (by omega), if_pos (by omega), show wrap64 (2 + 1) = 3 by decide +kernel]
          rw [if_neg (by decide), if_pos (by rw [decide_eq_true_iff]; omega)]
    · rw [if_neg d0, no _ _ _ _ (by omega)]
theorem spec_fair_l1 {t : List (List Int)} {n : Int} (ok : TriOk t n) {x : List Int} (hx : (x.length : Int) = n) (hc : x.all co = true) : ∀ (d i k : Nat), i + d = t.length → 6 * d < k → spec_IsFair.l1 k t x (i : Int) = some ((t.drop i).all (fairRow x)) := by
  have hs := ok.short
  intro d
  induction d with
  | zero =>
    intro i k hi hk
    obtain ⟨k, rfl⟩ : ∃ m, k = m + 1 := ⟨k - 1, by omega⟩
    simp only [spec_IsFair.l1]
    rw [if_neg (by omega), List.drop_of_length_le (by omega)]
    rfl
  | succ d ih =>
    intro i k hi hk
    obtain ⟨k, rfl⟩ : ∃ m, k = m + 5 := ⟨k - 5, by omega⟩
    have hlt : i < t.length := by omega
    rw [show k + 5 = (k + 4) + 1 from rfl]
    simp only [spec_IsFair.l1]
    rw [if_pos (by omega), spec_fair_l2 ok hx hc hlt k, w_id (by omega) (by omega), show ((i : Int) + 1) = ((i + 1 : Nat) : Int) by omega, ih (i + 1) k (by omega) (by omega), List.drop_eq_getElem_cons hlt, List.all_cons]
    by_cases h : fairRow x t[i] = true
    · rw [if_pos h, h, Bool.true_and]
    · rw [if_neg h]
      simp at h
      rw [h, Bool.false_and]
theorem spec_fair_l0 {t : List (List Int)} {n : Int} (ok : TriOk t n) {x : List Int} (hx : (x.length : Int) = n) : ∀ (d i k : Nat), i + d = x.length → 100 + d < k → (x.take i).all co = true → spec_IsFair.l0 k t x (i : Int) = some (x.all co && t.all (fairRow x)) := by
  have hs := ok.short
  have n9 := ok.n9
  intro d
  induction d with
  | zero =>
    intro i k hi hk ht
    obtain ⟨k, rfl⟩ : ∃ m, k = m + 1 := ⟨k - 1, by omega⟩
    simp only [spec_IsFair.l0]
    rw [List.take_of_length_le (by omega)] at ht
    have := spec_fair_l1 ok hx ht t.length 0 k (by omega) (by omega)
    rw [List.drop_zero] at this
    rw [if_neg (by omega), ht, Bool.true_and]
    exact this
  | succ d ih =>
    intro i k hi hk ht
    obtain ⟨k, rfl⟩ : ∃ m, k = m + 1 := ⟨k - 1, by omega⟩
    have hlt : i < x.length := by omega
    simp only [spec_IsFair.l0]
    rw [if_pos (by omega), if_pos (by omega), rd_nat x i hlt, l1In_eq, Option.bind_some]
    by_cases h : 0 ≤ x[i] ∧ x[i] ≤ 200
    · rw [if_pos (by simpa using h), w_id (by omega) (by omega), show ((i : Int) + 1) = ((i + 1 : Nat) : Int) by omega]
      refine ih (i + 1) k (by omega) (by omega) ?_
      rw [List.take_succ_eq_append_getElem hlt, List.all_append, ht]
      simp [co, h]
    · rw [if_neg (by simpa using h)]
      have : x.all co = false := by
        rw [List.all_eq_false]
        exact ⟨x[i], List.getElem_mem hlt, by unfold co; simpa using h⟩
      rw [this, Bool.false_and]
theorem spec_fair (t : List (List Int)) (ht : t.length ≤ 1048576) (x : List Int) (k : Nat) (hk : 6000001 < k) : spec_IsFair.f k t x = some (isF t x) := by
  obtain ⟨k, rfl⟩ : ∃ m, k = m + 1 := ⟨k - 1, by omega⟩
  unfold spec_IsFair.f isF
  rw [spec_isT t ht _ (by omega), Option.bind_some]
  simp only [spec_IsFair.j0]
  rw [show wrap64 (Int.tdiv (wrap64 (3 * (t.length : Int))) 2) = edges t from rfl]
  by_cases h : isT t = true
  · have ok := isT_ok ht h
    have n9 := ok.n9
    rw [if_pos h, h]
    by_cases h2 : (x.length : Int) = edges t
    · have := spec_fair_l0 ok h2 x.length 0 k (by omega) (by omega) (by simp)
      rw [if_neg (by simpa using h2), decide_eq_true h2, Bool.true_and, Bool.true_and]
      exact this
    · rw [if_pos (by simpa using h2), decide_eq_false h2, Bool.false_and, Bool.and_false]
  · rw [if_neg h, if_pos trivial]
    simp at h
    rw [h, Bool.false_and]
theorem impl_fair_l0 {t : List (List Int)} {n : Int} (ok : TriOk t n) {x : List Int} (hx : (x.length : Int) = n) (hc : x.all co = true) : ∀ (d i k : Nat), i + d = t.length → d < k → impl_IsFair.l0 k x t (t.length : Int) (i : Int) = some ((t.drop i).all (fairRow x)) := by
  have hs := ok.short
  have n9 := ok.n9
  intro d
  induction d with
  | zero =>
    intro i k hi hk
    obtain ⟨k, rfl⟩ : ∃ m, k = m + 1 := ⟨k - 1, by omega⟩
    simp only [impl_IsFair.l0]
    rw [if_neg (by omega), List.drop_of_length_le (by omega)]
    rfl
  | succ d ih =>
    intro i k hi hk
    obtain ⟨k, rfl⟩ : ∃ m, k = m + 1 := ⟨k - 1, by omega⟩
    have hlt : i < t.length := by omega
    obtain ⟨a, b, c, e, ha, hb, hcc⟩ := ok.i64 (List.getElem_mem hlt)
    have A := crd_bd hc a
    have B := crd_bd hc b
    have C := crd_bd hc c
    have q : ∀ y : Int, y ≠ 0 ∧ -n ≤ y ∧ y ≤ n → 0 ≤ (y.natAbs : Int) - 1 ∧ (y.natAbs : Int) - 1 < x.length ∧ wrap64 ((y.natAbs : Int) - 1) = (y.natAbs : Int) - 1 := fun y hy => ⟨by omega, by omega, w_id (by omega) (by omega)⟩
    obtain ⟨qa1, qa2, qa3⟩ := q a ha
    obtain ⟨qb1, qb2, qb3⟩ := q b hb
    obtain ⟨qc1, qc2, qc3⟩ := q c hcc
    have sa := size_eq (a := a) (by omega) (by omega)
    have sb := size_eq (a := b) (by omega) (by omega)
    have sc := size_eq (a := c) (by omega) (by omega)
    have l3 : (([a, b, c] : List Int).length : Int) = 3 := rfl
    have e0 : rd [a, b, c] 0 = a := rfl
    have e1 : rd [a, b, c] 1 = b := rfl
    have e2 : rd [a, b, c] 2 = c := rfl
    have hf : fairRow x t[i] = decide ((crd x a + crd x b + crd x c) % 2 = 0 ∧ crd x a ≤ crd x b + crd x c ∧ crd x b ≤ crd x a + crd x c ∧ crd x c ≤ crd x a + crd x b) := by rw [e]; rfl
    simp only [impl_IsFair.l0]
    rw [List.drop_eq_getElem_cons hlt, List.all_cons, hf]
    rw [if_pos (by omega), if_pos (by omega), if_pos (by omega), rdL_nat t i hlt, e, l3, e0, e1, e2, if_pos (by decide), sa, Option.bind_some, qa3, if_pos qa1, if_pos qa2, if_pos (by decide), sb, Option.bind_some, qb3, if_pos qb1, if_pos qb2, if_pos (by decide), sc, Option.bind_some, qc3, if_pos qc1, if_pos qc2]
    rw [show rd x ((a.natAbs : Int) - 1) = crd x a from rfl, show rd x ((b.natAbs : Int) - 1) = crd x b from rfl, show rd x ((c.natAbs : Int) - 1) = crd x c from rfl]
    rw [w_id (a := crd x a + crd x b) (by omega) (by omega), w_id (a := crd x a + crd x b + crd x c) (by omega) (by omega), w_id (a := crd x b + crd x c) (by omega) (by omega), w_id (a := crd x a + crd x c) (by omega) (by omega), Int.tmod_eq_emod_of_nonneg (by omega), w_id (a := (i : Int) + 1) (by omega) (by omega), show ((i : Int) + 1) = ((i + 1 : Nat) : Int) by omega, ih (i + 1) k (by omega) (by omega)]
    have no : ∀ (P : Prop) [Decidable P] (u : Bool), ¬ P → (decide P && u) = false := fun P _ u h => by simp [h]
    by_cases c0 : (crd x a + crd x b + crd x c) % 2 = 0
    · rw [if_pos c0]
      by_cases c1 : crd x a > crd x b + crd x c
      · rw [if_pos c1, no _ _ (by omega)]
      · rw [if_neg c1]
        by_cases c2 : crd x b > crd x a + crd x c
        · rw [if_pos c2, no _ _ (by omega)]
        · rw [if_neg c2]
          by_cases c3 : crd x c > crd x a + crd x b
          · rw [if_pos c3, no _ _ (by omega)]
          · rw [if_neg c3, decide_eq_true (by omega), Bool.true_and]
    · rw [if_neg c0, no _ _ (by omega)]
theorem impl_fair (t : List (List Int)) (ht : t.length ≤ 1048576) (x : List Int) (k : Nat) (hk : 6000001 < k) : impl_IsFair.f k t x = some (isF t x) := by
  obtain ⟨k, rfl⟩ : ∃ m, k = m + 1 := ⟨k - 1, by omega⟩
  unfold impl_IsFair.f isF
  rw [impl_isT t ht _ (by omega), Option.bind_some]
  simp only [impl_IsFair.j0]
  rw [show wrap64 (Int.tdiv (wrap64 (3 * (t.length : Int))) 2) = edges t from rfl]
  by_cases h : isT t = true
  · have ok := isT_ok ht h
    have n9 := ok.n9
    have hs := ok.short
    rw [if_pos h, h]
    by_cases h2 : (x.length : Int) = edges t
    · rw [if_pos h2, decide_eq_true h2, Bool.true_and, Bool.true_and, areCo x (by omega) _ (by omega), Option.bind_some]
      by_cases h3 : x.all co = true
      · have := impl_fair_l0 ok h2 h3 t.length 0 k (by omega) (by omega)
        rw [List.drop_zero] at this
        rw [h3, if_neg (by decide), Bool.true_and]
        exact this
      · rw [Bool.eq_false_iff.mpr h3, if_pos (by decide), Bool.false_and]
    · rw [if_neg h2, if_pos trivial, decide_eq_false h2, Bool.false_and, Bool.and_false]
  · rw [if_neg h, if_pos trivial]
    simp at h
    rw [h, Bool.false_and]
end Go.Proofs.Ytcligopbieaceaa.L
