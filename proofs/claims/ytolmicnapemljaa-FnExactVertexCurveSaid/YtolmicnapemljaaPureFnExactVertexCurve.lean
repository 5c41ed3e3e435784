/- The program's VertexCurve answers as the reference's, for all arguments; no condition. -/
import Derived.Test.YtolmicnapemljaaPx0
import Derived.Test.YtolmicnapemljaaHelp
import Derived.Test.YtolmicnapemljaaPx11
import Derived.Test.YtolmicnapemljaaPx12
import Derived.Test.YtolmicnapemljaaUF3
import Derived.Test.YtolmicnapemljaaPx1
import Derived.Test.YtolmicnapemljaaPx3
import Derived.Test.YtolmicnapemljaaPx4
import Derived.Test.YtolmicnapemljaaPx5
import Derived.Test.YtolmicnapemljaaPx2
import Derived.Test.YtolmicnapemljaaPx6
import Derived.Test.YtolmicnapemljaaPx19
import Derived.Test.YtolmicnapemljaaPx21
import Derived.Test.YtolmicnapemljaaPx8
import Derived.Test.YtolmicnapemljaaPx15
import Derived.Test.YtolmicnapemljaaPx18
import Derived.Test.YtolmicnapemljaaPx17
import Derived.Test.YtolmicnapemljaaPx27
import Derived.Test.YtolmicnapemljaaPx36
import Derived.Test.YtolmicnapemljaaPx16
import Derived.Test.YtolmicnapemljaaPx58
import Derived.Test.YtolmicnapemljaaWlFnExactVertexCurve

namespace Go.Proofs.Ytolmicnapemljaa.L
open Go.RowKit Go.Proofs.Ytolmicnapemljaa.P Go.Proofs.Ytolmicnapemljaa.Help Go.Proofs.YtolmicnapemljaaW.PrintWords
set_option linter.unusedVariables false
set_option linter.unusedSimpArgs false

theorem w_id {a : Int} (h0 : -9223372036854775808 ≤ a) (h1 : a ≤ 9223372036854775807) : wrap64 a = a := by unfold wrap64; omega
theorem mulb {a b A B : Int} (h1 : -A ≤ a) (h2 : a ≤ A) (h3 : -B ≤ b) (h4 : b ≤ B) : -(A * B) ≤ a * b ∧ a * b ≤ A * B := by
  have hA : 0 ≤ A := by omega
  have hB : 0 ≤ B := by omega
  have h : (a * b).natAbs ≤ (A * B).natAbs := by
    rw [Int.natAbs_mul, Int.natAbs_mul]
    exact Nat.mul_le_mul (by omega) (by omega)
  have hp : 0 ≤ A * B := Int.mul_nonneg hA hB
  omega
theorem rd_nat (xs : List Int) (i : Nat) (h : i < xs.length) : rd xs (i : Int) = xs[i] := by
  unfold rd
  simp [List.getD_eq_getElem?_getD, List.getElem?_eq_getElem h]
theorem bind_ite {α β : Type} {c : Prop} [Decidable c] (x y : Option α) (f : α → Option β) : (if c then x else y).bind f = if c then x.bind f else y.bind f := by split <;> rfl
theorem unit_of {a d : Int} (h : a * d = 1) : a = 1 ∨ a = -1 := by
  have h1 : a.natAbs * d.natAbs = 1 := by rw [← Int.natAbs_mul, h]; rfl
  have h2 : a.natAbs = 1 := Nat.eq_one_of_mul_eq_one_right h1
  omega
end Go.Proofs.Ytolmicnapemljaa.L

namespace Go.Proofs.Ytolmicnapemljaa.L
open Go.RowKit Go.Proofs.Ytolmicnapemljaa.P Go.Proofs.Ytolmicnapemljaa.Help Go.Proofs.YtolmicnapemljaaW.PrintWords
set_option linter.unusedVariables false
set_option linter.unusedSimpArgs false

theorem top_way {up : List Int} (hok : UF.Ok up) {k : Nat} {i r : Int} (h : UF.Way up k i r) : ∀ m, k < m → 0 ≤ i → i < up.length → joiner_top.l0 m up i = some r := by
  induction h with
  | @here r h =>
    intro m hm h0 h1
    obtain ⟨m, rfl⟩ : ∃ q, m = q + 1 := ⟨m - 1, by omega⟩
    simp only [joiner_top.l0]
    rw [if_pos h0, if_pos h1, if_pos (show rd up r = r from h)]
  | @step k i r h w ih =>
    intro m hm h0 h1
    obtain ⟨m, rfl⟩ : ∃ q, m = q + 1 := ⟨m - 1, by omega⟩
    have hb := (hok i h0 h1).1
    simp only [joiner_top.l0]
    rw [if_pos h0, if_pos h1, if_neg (show ¬ rd up i = i from h)]
    exact ih m (by omega) hb.1 hb.2
theorem find_way {up : List Int} (hok : UF.Ok up) {k : Nat} {i r : Int} (h : UF.Way up k i r) : ∀ m, k < m → 0 ≤ i → i < up.length → spec_l3Find.l0 m up i = some r := by
  induction h with
  | @here r h =>
    intro m hm h0 h1
    obtain ⟨m, rfl⟩ : ∃ q, m = q + 1 := ⟨m - 1, by omega⟩
    simp only [spec_l3Find.l0]
    rw [if_pos h0, if_pos h1, if_pos (show rd up r = r from h)]
  | @step k i r h w ih =>
    intro m hm h0 h1
    obtain ⟨m, rfl⟩ : ∃ q, m = q + 1 := ⟨m - 1, by omega⟩
    have hb := (hok i h0 h1).1
    simp only [spec_l3Find.l0]
    rw [if_pos h0, if_pos h1, if_neg (show ¬ rd up i = i from h)]
    exact ih m (by omega) hb.1 hb.2
theorem top_f {up : List Int} (hok : UF.Ok up) {i : Int} (h0 : 0 ≤ i) (h1 : i < up.length) {m : Nat} (hm : up.length ≤ m) : joiner_top.l0 m up i = some (UF.rt up i) := by
  obtain ⟨k, hk, w⟩ := hok.way h0 h1
  exact top_way hok w m (by omega) h0 h1
theorem find3_f {up : List Int} (hok : UF.Ok up) {i : Int} (h0 : 0 ≤ i) (h1 : i < up.length) {m : Nat} (hm : up.length ≤ m) : spec_l3Find.f m up i = some (UF.rt up i) := by
  obtain ⟨k, hk, w⟩ := hok.way h0 h1
  exact find_way hok w m (by omega) h0 h1
theorem join_f {up : List Int} {n : Int} {ps : List (Int × Int)} (h : UF.Stands up n ps) {a b : Int} (ha : 0 ≤ a ∧ a < n) (hb : 0 ≤ b ∧ b < n) {m : Nat} (hm : up.length ≤ m) : ∃ ys, joiner_join.f m up a b = some ys ∧ UF.Stands ys n (ps ++ [(a, b)]) := by
  have hl := h.len
  have ra := h.ok.rt ha.1 (by omega)
  have rb := h.ok.rt hb.1 (by omega)
  have ba := h.ok.bd ra ha.1 (by omega)
  have bb := h.ok.bd rb hb.1 (by omega)
  have J := h.join ha hb ra rb
  unfold joiner_join.f
  rw [top_f h.ok ha.1 (by omega) hm, Option.bind_some, top_f h.ok hb.1 (by omega) hm, Option.bind_some]
  unfold joiner_join.put
  by_cases c : UF.rt up a > UF.rt up b
  · rw [if_pos c, if_pos ba.1, if_pos ba.2]
    exact ⟨_, rfl, J.1⟩
  · rw [if_neg c, if_pos bb.1, if_pos bb.2]
    exact ⟨_, rfl, J.2⟩
theorem alone_succ (n : Nat) : UF.alone (n + 1) = UF.alone n ++ [(n : Int)] := by
  unfold UF.alone
  rw [List.range_succ, List.map_append]
  rfl
theorem alone_len (n : Nat) : (UF.alone n).length = n := by simp [UF.alone]
theorem newJoiner_l0 (n : Nat) (hn : n ≤ 1000000) : ∀ (d k i : Nat), i + d = n → d < k → impl_newJoiner.l0 k (n : Int) (UF.alone i) (i : Int) = some (UF.alone n) := by
  intro d
  induction d with
  | zero =>
    intro k i hi hk
    obtain ⟨k, rfl⟩ : ∃ m, k = m + 1 := ⟨k - 1, by omega⟩
    simp only [impl_newJoiner.l0]
    rw [if_neg (by omega), show i = n by omega]
  | succ d ih =>
    intro k i hi hk
    obtain ⟨k, rfl⟩ : ∃ m, k = m + 1 := ⟨k - 1, by omega⟩
    simp only [impl_newJoiner.l0]
    rw [if_pos (by omega), if_pos (by rw [alone_len]; omega), w_id (by omega) (by omega), show ((i : Int) + 1) = ((i + 1 : Nat) : Int) by omega, ← alone_succ, ih k (i + 1) (by omega) (by omega)]
theorem newJoiner_f (n : Nat) (hn : n ≤ 1000000) (k : Nat) (hk : n < k) : impl_newJoiner.l0 k (n : Int) [] 0 = some (UF.alone n) := newJoiner_l0 n hn n k 0 (by omega) hk
/-- The pairs of all triangles, side by side. -/
def rowG (f : Nat → Nat → List (Int × Int)) (i : Nat) : Nat → Nat → List (Int × Int)
  | 0, _ => []
  | d + 1, j => f i j ++ rowG f i d (j + 1)
def allG (f : Nat → Nat → List (Int × Int)) : Nat → Nat → List (Int × Int)
  | 0, _ => []
  | d + 1, i => rowG f i 3 0 ++ allG f d (i + 1)
theorem mem_rowG {f : Nat → Nat → List (Int × Int)} {i : Nat} {p : Int × Int} : ∀ (d j : Nat), p ∈ rowG f i d j ↔ ∃ q, j ≤ q ∧ q < j + d ∧ p ∈ f i q
  | 0, j => by
    simp only [rowG, List.not_mem_nil, false_iff]
    rintro ⟨q, h1, h2, _⟩
    omega
  | d + 1, j => by
    rw [rowG, List.mem_append, mem_rowG d (j + 1)]
    constructor
    · rintro (h | ⟨q, h1, h2, h3⟩)
      · exact ⟨j, by omega, by omega, h⟩
      · exact ⟨q, by omega, by omega, h3⟩
    · rintro ⟨q, h1, h2, h3⟩
      by_cases e : q = j
      · subst e; exact .inl h3
      · exact .inr ⟨q, by omega, by omega, h3⟩
theorem mem_allG {f : Nat → Nat → List (Int × Int)} {p : Int × Int} : ∀ (d i : Nat), p ∈ allG f d i ↔ ∃ r, i ≤ r ∧ r < i + d ∧ ∃ q, q < 3 ∧ p ∈ f r q
  | 0, i => by
    simp only [allG, List.not_mem_nil, false_iff]
    rintro ⟨q, h1, h2, _⟩
    omega
  | d + 1, i => by
    rw [allG, List.mem_append, mem_rowG, mem_allG d (i + 1)]
    constructor
    · rintro (⟨q, _, h2, h3⟩ | ⟨r, h1, h2, h3⟩)
      · exact ⟨i, by omega, by omega, q, by omega, h3⟩
      · exact ⟨r, by omega, by omega, h3⟩
    · rintro ⟨r, h1, h2, q, h3, h4⟩
      by_cases e : r = i
      · subst e; exact .inl ⟨q, by omega, by omega, h4⟩
      · exact .inr ⟨r, by omega, by omega, q, h3, h4⟩
end Go.Proofs.Ytolmicnapemljaa.L

namespace Go.Proofs.Ytolmicnapemljaa.L
open Go.RowKit Go.Proofs.Ytolmicnapemljaa.P Go.Proofs.Ytolmicnapemljaa.Help Go.Proofs.YtolmicnapemljaaW.PrintWords
set_option linter.unusedVariables false
set_option linter.unusedSimpArgs false

theorem l1In_eq (a lo hi : Int) : spec_l1In.f a lo hi = some (decide (lo ≤ a ∧ a ≤ hi)) := by
  unfold spec_l1In.f
  by_cases h : lo ≤ a <;> simp [h]
theorem within_eq (a lo hi : Int) : impl_within.f a lo hi = some (decide (lo ≤ a ∧ a ≤ hi)) := by
  unfold impl_within.f
  by_cases h : lo ≤ a <;> simp [h]
end Go.Proofs.Ytolmicnapemljaa.L

namespace Go.Proofs.Ytolmicnapemljaa.L
open Go.RowKit Go.Proofs.Ytolmicnapemljaa.P Go.Proofs.Ytolmicnapemljaa.Help Go.Proofs.YtolmicnapemljaaW.PrintWords
set_option linter.unusedVariables false
set_option linter.unusedSimpArgs false

theorem toIntS_l0 (xs : List Int) (hx : xs.length ≤ 1000000000000) : ∀ (d k i : Nat) (ys : List Int), i + d = xs.length → d < k → ys.length = xs.length → ys.take i = xs.take i → laws_toIntS.l0 k xs ys (i : Int) = some xs := by
  intro d
  induction d with
  | zero =>
    intro k i ys hi hk hl ht
    obtain ⟨k, rfl⟩ : ∃ m, k = m + 1 := ⟨k - 1, by omega⟩
    simp only [laws_toIntS.l0]
    rw [if_neg (by omega)]
    rw [List.take_of_length_le (by omega), List.take_of_length_le (by omega)] at ht
    rw [ht]
  | succ d ih =>
    intro k i ys hi hk hl ht
    obtain ⟨k, rfl⟩ : ∃ m, k = m + 1 := ⟨k - 1, by omega⟩
    simp only [laws_toIntS.l0]
    rw [if_pos (by omega), if_pos (by omega), if_pos (by omega), w_id (by omega) (by omega), show ((i : Int) + 1) = ((i + 1 : Nat) : Int) by omega, Int.toNat_natCast, rd_nat xs i (by omega)]
    refine ih k (i + 1) _ (by omega) (by omega) (by rw [List.length_set]; exact hl) ?_
    rw [List.take_succ_eq_append_getElem (by rw [List.length_set]; omega), List.take_succ_eq_append_getElem (by omega), List.getElem_set_self, List.take_set_of_le (by omega), ht]
theorem toIntS_f (xs : List Int) (hx : xs.length ≤ 1048576) (k : Nat) (hk : 1048576 < k) : laws_toIntS.f k xs = some xs := by
  unfold laws_toIntS.f
  rw [if_pos (by omega), if_pos (by omega), Int.toNat_natCast]
  exact toIntS_l0 xs (by omega) xs.length k 0 _ (by omega) (by omega) (by simp) (by simp)
theorem eqIntS_l0 (xs : List Int) (hx : xs.length ≤ 1000000000000) : ∀ (d k i : Nat), i + d = xs.length → d < k → laws_eqIntS.l0 k xs xs (i : Int) = some true := by
  intro d
  induction d with
  | zero =>
    intro k i hi hk
    obtain ⟨k, rfl⟩ : ∃ m, k = m + 1 := ⟨k - 1, by omega⟩
    simp only [laws_eqIntS.l0]
    rw [if_neg (by omega)]
  | succ d ih =>
    intro k i hi hk
    obtain ⟨k, rfl⟩ : ∃ m, k = m + 1 := ⟨k - 1, by omega⟩
    simp only [laws_eqIntS.l0]
    rw [if_pos (by omega), if_pos (by omega), if_pos (by omega)]
    simp only [if_true]
    rw [w_id (by omega) (by omega), show ((i : Int) + 1) = ((i + 1 : Nat) : Int) by omega, ih k (i + 1) (by omega) (by omega)]
theorem eqIntS_self (xs : List Int) (hx : xs.length ≤ 1048576) (k : Nat) (hk : 1048576 < k) : laws_eqIntS.f k xs xs = some true := by
  unfold laws_eqIntS.f
  rw [if_pos rfl]
  exact eqIntS_l0 xs (by omega) xs.length k 0 (by omega) (by omega)
end Go.Proofs.Ytolmicnapemljaa.L

namespace Go.Proofs.Ytolmicnapemljaa.L
open Go.RowKit Go.Proofs.Ytolmicnapemljaa.P Go.Proofs.Ytolmicnapemljaa.Help Go.Proofs.YtolmicnapemljaaW.PrintWords
set_option linter.unusedVariables false
set_option linter.unusedSimpArgs false

/-- How many numbers. -/
def tot : List (List Int) → Nat
  | [] => 0
  | r :: rs => r.length + tot rs
theorem rdL_nat (xs : List (List Int)) (i : Nat) (h : i < xs.length) : rd_L1 xs (i : Int) = xs[i] := by
  unfold rd_L1
  simp [List.getD_eq_getElem?_getD, List.getElem?_eq_getElem h]
theorem szIntS_f (r : List Int) (hr : r.length ≤ 9223372036854775807) (a : Int) (h0 : 0 ≤ a) (h1 : a ≤ 1048576) : laws_szIntS.f r a = some (if a - r.length < 0 then -1 else a - r.length) := by
  unfold laws_szIntS.f
  rw [w_id (by omega) (by omega)]
  split <;> rfl
theorem szIntSS_l0 (xs : List (List Int)) (hx : xs.length ≤ 1048576) (hr : ∀ r ∈ xs, r.length ≤ 9223372036854775807) : ∀ (d k i : Nat) (a : Int), i + d = xs.length → d < k → 0 ≤ a → a ≤ 1048576 → ∃ t, laws_szIntSS.l0 k xs a (i : Int) = some t ∧ (0 ≤ t → (∀ r ∈ xs.drop i, r.length ≤ 1048576) ∧ t + tot (xs.drop i) = a) := by
  intro d
  induction d with
  | zero =>
    intro k i a hi hk h0 h1
    obtain ⟨k, rfl⟩ : ∃ m, k = m + 1 := ⟨k - 1, by omega⟩
    simp only [laws_szIntSS.l0]
    rw [if_neg (by omega), List.drop_of_length_le (by omega)]
    exact ⟨a, rfl, fun _ => ⟨fun r hr => by simp at hr, by simp [tot]⟩⟩
  | succ d ih =>
    intro k i a hi hk h0 h1
    obtain ⟨k, rfl⟩ : ∃ m, k = m + 1 := ⟨k - 1, by omega⟩
    have hlt : i < xs.length := by omega
    simp only [laws_szIntSS.l0]
    rw [if_pos (by omega), if_pos (by omega), rdL_nat xs i hlt, szIntS_f _ (hr _ (List.getElem_mem hlt)) a h0 h1, Option.bind_some]
    by_cases h : a - (xs[i].length : Int) < 0
    · rw [if_pos h, if_pos (by decide)]
      exact ⟨-1, rfl, fun h => absurd h (by decide)⟩
    · rw [if_neg h, if_neg h, w_id (by omega) (by omega), show ((i : Int) + 1) = ((i + 1 : Nat) : Int) by omega]
      obtain ⟨t, ht, hd⟩ := ih k (i + 1) (a - xs[i].length) (by omega) (by omega) (by omega) (by omega)
      refine ⟨t, ht, fun h2 => ⟨fun r hr => ?_, ?_⟩⟩
      · rw [List.drop_eq_getElem_cons hlt] at hr
        rcases List.mem_cons.1 hr with rfl | hr
        · omega
        · exact (hd h2).1 r hr
      · rw [List.drop_eq_getElem_cons hlt, tot]
        have := (hd h2).2
        omega
theorem szIntSS_f (xs : List (List Int)) (hx : xs.length ≤ 9223372036854775807) (hr : ∀ r ∈ xs, r.length ≤ 9223372036854775807) (a : Int) (h0 : 0 ≤ a) (h1 : a ≤ 1048576) (k : Nat) (hk : 1048577 < k) : ∃ t, laws_szIntSS.f k xs a = some t ∧ (0 ≤ t → xs.length ≤ 1048576 ∧ (∀ r ∈ xs, r.length ≤ 1048576) ∧ tot xs ≤ 1048576) := by
  unfold laws_szIntSS.f
  rw [w_id (by omega) (by omega)]
  by_cases h : a - (xs.length : Int) < 0
  · rw [if_pos h]
    exact ⟨-1, rfl, fun h => absurd h (by decide)⟩
  · rw [if_neg h]
    obtain ⟨t, ht, hd⟩ := szIntSS_l0 xs (by omega) hr xs.length k 0 (a - xs.length) (by omega) (by omega) (by omega) (by omega)
    refine ⟨t, ht, fun h2 => ⟨by omega, ?_⟩⟩
    have := hd h2
    rw [List.drop_zero] at this
    exact ⟨this.1, by omega⟩
theorem toIntSS_l0 (xs : List (List Int)) (hx : xs.length ≤ 1048576) (hr : ∀ r ∈ xs, r.length ≤ 1048576) : ∀ (d k i : Nat) (ys : List (List Int)), i + d = xs.length → d + 1048577 < k → ys.length = xs.length → ys.take i = xs.take i → laws_toIntSS.l0 k xs ys (i : Int) = some xs := by
  intro d
  induction d with
  | zero =>
    intro k i ys hi hk hl ht
    obtain ⟨k, rfl⟩ : ∃ m, k = m + 1 := ⟨k - 1, by omega⟩
    simp only [laws_toIntSS.l0]
    rw [if_neg (by omega)]
    rw [List.take_of_length_le (by omega), List.take_of_length_le (by omega)] at ht
    rw [ht]
  | succ d ih =>
    intro k i ys hi hk hl ht
    obtain ⟨k, rfl⟩ : ∃ m, k = m + 1 := ⟨k - 1, by omega⟩
    have hlt : i < xs.length := by omega
    simp only [laws_toIntSS.l0]
    rw [if_pos (by omega), if_pos (by omega), rdL_nat xs i hlt, toIntS_f _ (hr _ (List.getElem_mem hlt)) k (by omega), Option.bind_some, if_pos (by omega), w_id (by omega) (by omega), show ((i : Int) + 1) = ((i + 1 : Nat) : Int) by omega, Int.toNat_natCast]
    refine ih k (i + 1) _ (by omega) (by omega) (by rw [List.length_set]; exact hl) ?_
    rw [List.take_succ_eq_append_getElem (by rw [List.length_set]; omega), List.take_succ_eq_append_getElem (by omega), List.getElem_set_self, List.take_set_of_le (by omega), ht]
theorem toIntSS_f (xs : List (List Int)) (hx : xs.length ≤ 1048576) (hr : ∀ r ∈ xs, r.length ≤ 1048576) (k : Nat) (hk : 3000000 < k) : laws_toIntSS.f k xs = some xs := by
  unfold laws_toIntSS.f
  rw [if_pos (by omega), if_pos (by omega), Int.toNat_natCast]
  exact toIntSS_l0 xs (by omega) hr xs.length k 0 _ (by omega) (by omega) (by simp) (by simp)
theorem eqIntSS_l0 (xs : List (List Int)) (hx : xs.length ≤ 1048576) (hr : ∀ r ∈ xs, r.length ≤ 1048576) : ∀ (d k i : Nat), i + d = xs.length → d + 1048577 < k → laws_eqIntSS.l0 k xs xs (i : Int) = some true := by
  intro d
  induction d with
  | zero =>
    intro k i hi hk
    obtain ⟨k, rfl⟩ : ∃ m, k = m + 1 := ⟨k - 1, by omega⟩
    simp only [laws_eqIntSS.l0]
    rw [if_neg (by omega)]
  | succ d ih =>
    intro k i hi hk
    obtain ⟨k, rfl⟩ : ∃ m, k = m + 1 := ⟨k - 1, by omega⟩
    have hlt : i < xs.length := by omega
    simp only [laws_eqIntSS.l0]
    rw [if_pos (by omega), if_pos (by omega), if_pos (by omega), rdL_nat xs i hlt, eqIntS_self _ (hr _ (List.getElem_mem hlt)) k (by omega), Option.bind_some]
    rw [if_pos rfl, w_id (by omega) (by omega), show ((i : Int) + 1) = ((i + 1 : Nat) : Int) by omega, ih k (i + 1) (by omega) (by omega)]
theorem eqIntSS_self (xs : List (List Int)) (hx : xs.length ≤ 1048576) (hr : ∀ r ∈ xs, r.length ≤ 1048576) (k : Nat) (hk : 3000000 < k) : laws_eqIntSS.f k xs xs = some true := by
  unfold laws_eqIntSS.f
  rw [if_pos rfl]
  exact eqIntSS_l0 xs (by omega) hr xs.length k 0 (by omega) (by omega)
end Go.Proofs.Ytolmicnapemljaa.L

namespace Go.Proofs.Ytolmicnapemljaa.L
open Go.RowKit Go.Proofs.Ytolmicnapemljaa.P Go.Proofs.Ytolmicnapemljaa.Help Go.Proofs.YtolmicnapemljaaW.PrintWords
set_option linter.unusedVariables false
set_option linter.unusedSimpArgs false

/-- The letters of a row, put to those that are seen. -/
def rowR (n : Int) : List Int → List Int → Option (List Int)
  | seen, [] => some seen
  | seen, x :: xs => if x ≠ 0 ∧ (-n ≤ x ∧ x ≤ n) ∧ x ∉ seen then rowR n (x :: seen) xs else none
def triR (n : Int) : List Int → List (List Int) → Bool
  | _, [] => true
  | seen, r :: rs => if r.length = 3 then (match rowR n seen r with | some s => triR n s rs | none => false) else false
/-- The number of edges. -/
def edges (t : List (List Int)) : Int := wrap64 (Int.tdiv (wrap64 (3 * (t.length : Int))) 2)
def isT (t : List (List Int)) : Bool := if (t.length : Int) % 2 = 0 ∧ 3 ≤ edges t ∧ edges t ≤ 9 then triR (edges t) [] t else false

theorem impl_tri_l1 (t : List (List Int)) (n : Int) (hn : 3 ≤ n ∧ n ≤ 9) (i : Nat) (hi : i < t.length) (hl : t[i].length = 3) : ∀ (d j k : Nat) (seen : List Int), j + d = 3 → d < k →
    impl_IsTriangulation.l1 k t n seen (i : Int) (j : Int) = (match rowR n seen (t[i].drop j) with | some s => impl_IsTriangulation.l0 (k - d - 1) t n s (wrap64 ((i : Int) + 1)) | none => some false) := by
  intro d
  induction d with
  | zero =>
    intro j k seen hj hk
    obtain ⟨k, rfl⟩ : ∃ m, k = m + 1 := ⟨k - 1, by omega⟩
    simp only [impl_IsTriangulation.l1]
    rw [rdL_nat t i hi, if_neg (by omega), List.drop_of_length_le (by omega)]
    rfl
  | succ d ih =>
    intro j k seen hj hk
    obtain ⟨k, rfl⟩ : ∃ m, k = m + 1 := ⟨k - 1, by omega⟩
    have hlt : j < t[i].length := by omega
    simp only [impl_IsTriangulation.l1]
    rw [rdL_nat t i hi, if_pos (by omega), if_pos (by omega), rd_nat _ j hlt, within_eq, Option.bind_some, w_id (a := -n) (by omega) (by omega), List.drop_eq_getElem_cons hlt]
    by_cases h1 : t[i][j] = 0
    · rw [if_pos h1]
      simp [rowR, h1]
    · rw [if_neg h1]
      by_cases h2 : -n ≤ t[i][j] ∧ t[i][j] ≤ n
      · rw [if_pos (by simpa using h2)]
        by_cases h3 : t[i][j] ∈ seen
        · rw [if_pos h3]
          simp [rowR, h3]
        · rw [if_neg h3, w_id (a := (j : Int) + 1) (by omega) (by omega), show ((j : Int) + 1) = ((j + 1 : Nat) : Int) by omega, ih (j + 1) k _ (by omega) (by omega), rowR, if_pos ⟨h1, h2, h3⟩, show k + 1 - (d + 1) - 1 = k - d - 1 by omega]
      · rw [if_neg (by simpa using h2), rowR, if_neg (fun h => h2 h.2.1)]
theorem impl_tri_l0 (t : List (List Int)) (ht : t.length ≤ 1048600) (n : Int) (hn : 3 ≤ n ∧ n ≤ 9) : ∀ (d i k : Nat) (seen : List Int), i + d = t.length → 5 * d < k →
    impl_IsTriangulation.l0 k t n seen (i : Int) = some (triR n seen (t.drop i)) := by
  intro d
  induction d with
  | zero =>
    intro i k seen hi hk
    obtain ⟨k, rfl⟩ : ∃ m, k = m + 1 := ⟨k - 1, by omega⟩
    simp only [impl_IsTriangulation.l0]
    rw [if_neg (by omega), List.drop_of_length_le (by omega)]
    rfl
  | succ d ih =>
    intro i k seen hi hk
    obtain ⟨k, rfl⟩ : ∃ m, k = m + 1 := ⟨k - 1, by omega⟩
    have hlt : i < t.length := by omega
    simp only [impl_IsTriangulation.l0]
    rw [if_pos (by omega), if_pos (by omega), rdL_nat t i hlt, List.drop_eq_getElem_cons hlt, triR]
    by_cases h1 : t[i].length = 3
    · have := impl_tri_l1 t n hn i hlt h1 3 0 k seen (by omega) (by omega)
      rw [if_pos (by omega), if_pos h1, show (0 : Int) = ((0 : Nat) : Int) from rfl, this, List.drop_zero]
      cases rowR n seen t[i] with
      | none => rfl
      | some s =>
        show impl_IsTriangulation.l0 _ t n s _ = some (triR n s _)
        rw [w_id (by omega) (by omega), show ((i : Int) + 1) = ((i + 1 : Nat) : Int) by omega, ih (i + 1) _ s (by omega) (by omega)]
    · rw [if_neg (by omega), if_neg h1]
theorem impl_isT' (t : List (List Int)) (ht : t.length ≤ 1048600) (k : Nat) (hk : 6000000 < k) : impl_IsTriangulation.f k t = some (isT t) := by
  obtain ⟨k, rfl⟩ : ∃ m, k = m + 1 := ⟨k - 1, by omega⟩
  unfold impl_IsTriangulation.f
  rw [within_eq, Option.bind_some]
  unfold isT edges
  by_cases h1 : (t.length : Int) % 2 = 0
  · rw [if_pos h1]
    simp only [impl_IsTriangulation.j0]
    by_cases h2 : 3 ≤ wrap64 (Int.tdiv (wrap64 (3 * (t.length : Int))) 2) ∧ wrap64 (Int.tdiv (wrap64 (3 * (t.length : Int))) 2) ≤ 9
    · rw [if_neg (by simpa using h2), if_pos ⟨h1, h2⟩]
      have := impl_tri_l0 t ht _ h2 t.length 0 k [] (by omega) (by omega)
      rw [List.drop_zero] at this
      exact this
    · rw [if_pos (by rw [decide_eq_false h2]; rfl), if_neg (fun h => h2 h.2)]
  · rw [if_neg h1]
    simp only [impl_IsTriangulation.j0]
    rw [if_pos trivial, if_neg (fun h => h1 h.1)]
/-- What is marked is what is seen. -/
def Marks (n : Int) (x4 : List Bool) (seen : List Int) : Prop := (x4.length : Int) = 2 * n + 1 ∧ ∀ y, -n ≤ y → y ≤ n → rdOf false x4 (n + y) = decide (y ∈ seen)
theorem Marks.put {n : Int} {x4 : List Bool} {seen : List Int} (h : Marks n x4 seen) {x : Int} (hx : -n ≤ x ∧ x ≤ n) : Marks n (x4.set (n + x).toNat true) (x :: seen) := by
  obtain ⟨h1, h2⟩ := h
  refine ⟨by rw [List.length_set]; exact h1, fun y hy1 hy2 => ?_⟩
  have h3 := h2 y hy1 hy2
  unfold rdOf at h3 ⊢
  rw [List.getD_eq_getElem?_getD] at h3 ⊢
  rw [List.getElem?_set]
  by_cases e : (n + x).toNat = (n + y).toNat
  · have : x = y := by omega
    subst this
    rw [if_pos rfl, if_pos (by omega)]
    simp
  · have hne : y ≠ x := fun e' => e (by rw [e'])
    rw [if_neg e, h3]
    simp [hne]
theorem Marks.made {n : Int} (hn : 0 ≤ n) : Marks n (List.replicate (2 * n + 1).toNat false) [] := by
  refine ⟨by rw [List.length_replicate]; omega, fun y _ _ => ?_⟩
  unfold rdOf
  rw [List.getD_eq_getElem?_getD, List.getElem?_replicate]
  split <;> simp
theorem spec_tri_l1 (t : List (List Int)) (n : Int) (hn : 3 ≤ n ∧ n ≤ 9) (i : Nat) (hi : i < t.length) (hl : t[i].length = 3) : ∀ (d j k : Nat) (x4 : List Bool) (seen : List Int), Marks n x4 seen → j + d = 3 → d < k →
    (rowR n seen (t[i].drop j) = none ∧ spec_IsTriangulation.l1 k t n x4 (i : Int) (j : Int) = some false) ∨ ∃ s x4', rowR n seen (t[i].drop j) = some s ∧ Marks n x4' s ∧ spec_IsTriangulation.l1 k t n x4 (i : Int) (j : Int) = spec_IsTriangulation.l0 (k - d - 1) t n x4' (wrap64 ((i : Int) + 1)) := by
  intro d
  induction d with
  | zero =>
    intro j k x4 seen hm hj hk
    obtain ⟨k, rfl⟩ : ∃ m, k = m + 1 := ⟨k - 1, by omega⟩
    simp only [spec_IsTriangulation.l1]
    rw [if_neg (by omega), List.drop_of_length_le (by omega)]
    exact .inr ⟨seen, x4, rfl, hm, rfl⟩
  | succ d ih =>
    intro j k x4 seen hm hj hk
    obtain ⟨k, rfl⟩ : ∃ m, k = m + 1 := ⟨k - 1, by omega⟩
    have hlt : j < t[i].length := by omega
    simp only [spec_IsTriangulation.l1]
    rw [if_pos (by omega), if_pos (by omega), if_pos (by omega), if_pos (by omega), rdL_nat t i hi, if_pos (by omega), rd_nat _ j hlt, l1In_eq, Option.bind_some, w_id (a := -n) (by omega) (by omega), List.drop_eq_getElem_cons hlt]
    by_cases h1 : t[i][j] = 0
    · rw [if_pos h1]
      exact .inl ⟨by simp [rowR, h1], rfl⟩
    · rw [if_neg h1]
      by_cases h2 : -n ≤ t[i][j] ∧ t[i][j] ≤ n
      · have hx := hm.2 _ h2.1 h2.2
        have hlen := hm.1
        rw [if_pos (by simpa using h2), w_id (a := n + t[i][j]) (by omega) (by omega), if_pos (by omega), if_pos (by omega), hx]
        by_cases h3 : t[i][j] ∈ seen
        · rw [if_pos (by simpa using h3)]
          exact .inl ⟨by simp [rowR, h3], rfl⟩
        · rw [if_neg (by simpa using h3), w_id (a := (j : Int) + 1) (by omega) (by omega), show ((j : Int) + 1) = ((j + 1 : Nat) : Int) by omega, rowR, if_pos ⟨h1, h2, h3⟩, show k + 1 - (d + 1) - 1 = k - d - 1 by omega]
          exact ih (j + 1) k _ _ (hm.put h2) (by omega) (by omega)
      · rw [if_neg (by simpa using h2), rowR, if_neg (fun h => h2 h.2.1)]
        exact .inl ⟨rfl, rfl⟩
theorem spec_tri_l0 (t : List (List Int)) (ht : t.length ≤ 1048600) (n : Int) (hn : 3 ≤ n ∧ n ≤ 9) : ∀ (d i k : Nat) (x4 : List Bool) (seen : List Int), Marks n x4 seen → i + d = t.length → 5 * d < k →
    spec_IsTriangulation.l0 k t n x4 (i : Int) = some (triR n seen (t.drop i)) := by
  intro d
  induction d with
  | zero =>
    intro i k x4 seen hm hi hk
    obtain ⟨k, rfl⟩ : ∃ m, k = m + 1 := ⟨k - 1, by omega⟩
    simp only [spec_IsTriangulation.l0]
    rw [if_neg (by omega), List.drop_of_length_le (by omega)]
    rfl
  | succ d ih =>
    intro i k x4 seen hm hi hk
    obtain ⟨k, rfl⟩ : ∃ m, k = m + 1 := ⟨k - 1, by omega⟩
    have hlt : i < t.length := by omega
    simp only [spec_IsTriangulation.l0]
    rw [if_pos (by omega), if_pos (by omega), rdL_nat t i hlt, List.drop_eq_getElem_cons hlt, triR]
    by_cases h1 : t[i].length = 3
    · rw [if_pos (by omega), if_pos h1, show (0 : Int) = ((0 : Nat) : Int) from rfl]
      rcases spec_tri_l1 t n hn i hlt h1 3 0 k x4 seen hm (by omega) (by omega) with ⟨h2, h3⟩ | ⟨s, x4', h2, h3, h4⟩
      · rw [h3]
        rw [List.drop_zero] at h2
        rw [h2]
      · rw [h4]
        rw [List.drop_zero] at h2
        rw [h2, w_id (by omega) (by omega), show ((i : Int) + 1) = ((i + 1 : Nat) : Int) by omega]
        exact ih (i + 1) _ x4' s h3 (by omega) (by omega)
    · rw [if_neg (by omega), if_neg h1]
theorem spec_isT' (t : List (List Int)) (ht : t.length ≤ 1048600) (k : Nat) (hk : 6000000 < k) : spec_IsTriangulation.f k t = some (isT t) := by
  obtain ⟨k, rfl⟩ : ∃ m, k = m + 1 := ⟨k - 1, by omega⟩
  unfold spec_IsTriangulation.f
  rw [l1In_eq, Option.bind_some]
  unfold isT edges
  by_cases h1 : (t.length : Int) % 2 = 0
  · rw [if_pos h1]
    simp only [spec_IsTriangulation.j0]
    by_cases h2 : 3 ≤ wrap64 (Int.tdiv (wrap64 (3 * (t.length : Int))) 2) ∧ wrap64 (Int.tdiv (wrap64 (3 * (t.length : Int))) 2) ≤ 9
    · obtain ⟨n, hn⟩ : ∃ n : Int, wrap64 (Int.tdiv (wrap64 (3 * (t.length : Int))) 2) = n := ⟨_, rfl⟩
      rw [hn] at h2 ⊢
      rw [if_neg (by simpa using h2), if_pos (show (t.length : Int) % 2 = 0 ∧ 3 ≤ n ∧ n ≤ 9 from ⟨h1, h2⟩), w_id (a := 2 * n) (by omega) (by omega), w_id (a := 2 * n + 1) (by omega) (by omega), if_pos (by omega), if_pos (by omega)]
      have := spec_tri_l0 t ht n h2 t.length 0 k _ [] (Marks.made (by omega)) (by omega) (by omega)
      rw [List.drop_zero] at this
      exact this
    · rw [if_pos (by rw [decide_eq_false h2]; rfl), if_neg (fun h => h2 h.2)]
  · rw [if_neg h1]
    simp only [spec_IsTriangulation.j0]
    rw [if_pos trivial, if_neg (fun h => h1 h.1)]
theorem impl_isT (t : List (List Int)) (ht : t.length ≤ 1048576) (k : Nat) (hk : 6000000 < k) : impl_IsTriangulation.f k t = some (isT t) := impl_isT' t (by omega) k hk
theorem spec_isT (t : List (List Int)) (ht : t.length ≤ 1048576) (k : Nat) (hk : 6000000 < k) : spec_IsTriangulation.f k t = some (isT t) := spec_isT' t (by omega) k hk
end Go.Proofs.Ytolmicnapemljaa.L


namespace Go.Proofs.Ytolmicnapemljaa.L
open Go.RowKit Go.Proofs.Ytolmicnapemljaa.P Go.Proofs.Ytolmicnapemljaa.Help Go.Proofs.YtolmicnapemljaaW.PrintWords
set_option linter.unusedVariables false
set_option linter.unusedSimpArgs false

theorem rowR_some {n : Int} : ∀ {r seen s : List Int}, rowR n seen r = some s → (∀ x ∈ r, x ≠ 0 ∧ -n ≤ x ∧ x ≤ n) ∧ r.Nodup ∧ (∀ x ∈ r, x ∉ seen) ∧ ∀ x, x ∈ s ↔ x ∈ r ∨ x ∈ seen
  | [], seen, s, h => by
    have e : seen = s := Option.some.inj h
    subst e
    simp
  | y :: ys, seen, s, h => by
    rw [rowR] at h
    by_cases c : y ≠ 0 ∧ (-n ≤ y ∧ y ≤ n) ∧ y ∉ seen
    · rw [if_pos c] at h
      obtain ⟨h1, h2, h3, h4⟩ := rowR_some h
      refine ⟨fun x hx => ?_, List.nodup_cons.2 ⟨fun hy => h3 y hy List.mem_cons_self, h2⟩, fun x hx hs => ?_, fun x => ?_⟩
      · rcases List.mem_cons.1 hx with rfl | hx
        · exact ⟨c.1, c.2.1⟩
        · exact h1 x hx
      · rcases List.mem_cons.1 hx with rfl | hx
        · exact c.2.2 hs
        · exact h3 x hx (List.mem_cons_of_mem _ hs)
      · rw [h4 x, List.mem_cons, List.mem_cons]
        constructor
        · rintro (h | h | h)
          · exact .inl (.inr h)
          · exact .inl (.inl h)
          · exact .inr h
        · rintro ((h | h) | h)
          · exact .inr (.inl h)
          · exact .inl h
          · exact .inr (.inr h)
    · rw [if_neg c] at h
      exact absurd h (by simp)
theorem triR_true {n : Int} : ∀ {rows : List (List Int)} {seen : List Int}, triR n seen rows = true → (∀ r ∈ rows, r.length = 3) ∧ (∀ x ∈ rows.flatten, x ≠ 0 ∧ -n ≤ x ∧ x ≤ n) ∧ rows.flatten.Nodup ∧ ∀ x ∈ rows.flatten, x ∉ seen
  | [], seen, _ => by simp
  | r :: rs, seen, h => by
    rw [triR] at h
    by_cases c : r.length = 3
    · rw [if_pos c] at h
      cases hr : rowR n seen r with
      | none => rw [hr] at h; exact absurd h (by simp)
      | some s =>
        rw [hr] at h
        obtain ⟨h1, h2, h3, h4⟩ := rowR_some hr
        obtain ⟨g1, g2, g3, g4⟩ := triR_true (show triR n s rs = true from h)
        refine ⟨fun x hx => ?_, fun x hx => ?_, ?_, fun x hx hs => ?_⟩
        · rcases List.mem_cons.1 hx with rfl | hx
          · exact c
          · exact g1 x hx
        · rw [List.flatten_cons, List.mem_append] at hx
          rcases hx with hx | hx
          · exact h1 x hx
          · exact g2 x hx
        · rw [List.flatten_cons]
          refine List.nodup_append.2 ⟨h2, g3, fun a ha b hb e => ?_⟩
          subst e
          exact g4 a hb ((h4 a).2 (.inl ha))
        · rw [List.flatten_cons, List.mem_append] at hx
          rcases hx with hx | hx
          · exact h3 x hx hs
          · exact g4 x hx ((h4 x).2 (.inr hs))
    · rw [if_neg c] at h
      exact absurd h (by simp)
/-- A triangulation with n edges. -/
structure TriOk (t : List (List Int)) (n : Int) : Prop where
  n3 : 3 ≤ n
  n9 : n ≤ 9
  len : 3 * (t.length : Int) = 2 * n
  row : ∀ r ∈ t, r.length = 3
  inr : ∀ x ∈ t.flatten, x ≠ 0 ∧ -n ≤ x ∧ x ≤ n
  nodup : t.flatten.Nodup
theorem edges_eq {t : List (List Int)} (ht : t.length ≤ 1048600) : edges t = 3 * (t.length : Int) / 2 := by
  unfold edges
  rw [w_id (a := 3 * (t.length : Int)) (by omega) (by omega), Int.tdiv_eq_ediv_of_nonneg (by omega), w_id (by omega) (by omega)]
theorem isT_ok' {t : List (List Int)} (ht : t.length ≤ 1048600) (h : isT t = true) : TriOk t (edges t) := by
  unfold isT at h
  by_cases c : (t.length : Int) % 2 = 0 ∧ 3 ≤ edges t ∧ edges t ≤ 9
  · rw [if_pos c] at h
    obtain ⟨h1, h2, h3, _⟩ := triR_true h
    have e := edges_eq ht
    exact ⟨c.2.1, c.2.2, by omega, h1, h2, h3⟩
  · rw [if_neg c] at h
    exact absurd h (by simp)
theorem isT_ok {t : List (List Int)} (ht : t.length ≤ 1048576) (h : isT t = true) : TriOk t (edges t) := isT_ok' (by omega) h
theorem TriOk.short {t : List (List Int)} {n : Int} (h : TriOk t n) : t.length ≤ 6 ∧ 2 ≤ t.length := by
  have := h.n3
  have := h.n9
  have := h.len
  omega
theorem TriOk.at {t : List (List Int)} {n : Int} (h : TriOk t n) {i j : Nat} (hi : i < t.length) (hj : j < t[i].length) : t[i][j] ≠ 0 ∧ -n ≤ t[i][j] ∧ t[i][j] ≤ n :=
  h.inr _ (List.mem_flatten.2 ⟨t[i], List.getElem_mem hi, List.getElem_mem hj⟩)
theorem TriOk.three {t : List (List Int)} {n : Int} (h : TriOk t n) {i : Nat} (hi : i < t.length) : t[i].length = 3 := h.row _ (List.getElem_mem hi)
theorem TriOk.i64 {t : List (List Int)} {n : Int} (h : TriOk t n) {r : List Int} (hr : r ∈ t) : ∃ a b c, r = [a, b, c] ∧ (a ≠ 0 ∧ -n ≤ a ∧ a ≤ n) ∧ (b ≠ 0 ∧ -n ≤ b ∧ b ≤ n) ∧ (c ≠ 0 ∧ -n ≤ c ∧ c ≤ n) := by
  have hl := h.row r hr
  match r, hl with
  | [a, b, c], _ =>
    exact ⟨a, b, c, rfl, h.inr _ (List.mem_flatten.2 ⟨_, hr, by simp⟩), h.inr _ (List.mem_flatten.2 ⟨_, hr, by simp⟩), h.inr _ (List.mem_flatten.2 ⟨_, hr, by simp⟩)⟩
end Go.Proofs.Ytolmicnapemljaa.L

namespace Go.Proofs.Ytolmicnapemljaa.L
open Go.RowKit Go.Proofs.Ytolmicnapemljaa.P Go.Proofs.Ytolmicnapemljaa.Help Go.Proofs.YtolmicnapemljaaW.PrintWords
set_option linter.unusedVariables false
set_option linter.unusedSimpArgs false

/-- The first place of a number. -/
def idx (x : Int) : List Int → Int → Int
  | [], _ => -1
  | y :: ys, j => if y = x then j else idx x ys (j + 1)
def sideR (x : Int) : List (List Int) → Int → Int × Int
  | [], _ => (-1, -1)
  | r :: rs, i => if 0 ≤ idx x r 0 then (i, idx x r 0) else sideR x rs (i + 1)
theorem idx_bd (x : Int) : ∀ (ys : List Int) (j : Int), 0 ≤ j → idx x ys j = -1 ∨ (j ≤ idx x ys j ∧ idx x ys j < j + ys.length)
  | [], j, _ => .inl rfl
  | y :: ys, j, hj => by
    rw [idx, List.length_cons]
    split
    · exact .inr (by omega)
    · rcases idx_bd x ys (j + 1) (by omega) with h | h
      · exact .inl h
      · exact .inr (by omega)
theorem idx_hit (x : Int) : ∀ (ys : List Int) (j : Int), 0 ≤ j → x ∈ ys → j ≤ idx x ys j ∧ idx x ys j < j + ys.length
  | [], j, _, h => absurd h (by simp)
  | y :: ys, j, hj, h => by
    rw [idx, List.length_cons]
    by_cases e : y = x
    · rw [if_pos e]; omega
    · rw [if_neg e]
      have := idx_hit x ys (j + 1) (by omega) (by
        rcases List.mem_cons.1 h with h | h
        · exact absurd h.symm e
        · exact h)
      omega
theorem idx_at (x : Int) : ∀ (ys : List Int) (j : Int), 0 ≤ j → 0 ≤ idx x ys j → ys[(idx x ys j - j).toNat]? = some x
  | [], j, _, h => absurd h (by simp [idx])
  | y :: ys, j, hj, h => by
    rw [idx] at h ⊢
    by_cases e : y = x
    · rw [if_pos e]
      simp [e]
    · rw [if_neg e] at h ⊢
      have ih := idx_at x ys (j + 1) (by omega) h
      rcases idx_bd x ys (j + 1) (by omega) with h2 | h2
      · omega
      · rw [show (idx x ys (j + 1) - j).toNat = (idx x ys (j + 1) - (j + 1)).toNat + 1 by omega, List.getElem?_cons_succ]
        exact ih
theorem indexOf_l0 (x : Int) (xs : List Int) (hx : xs.length ≤ 1000000000000) : ∀ (d k j : Nat), j + d = xs.length → d < k → impl_indexOf.l0 k x xs (xs.length : Int) (j : Int) = some (idx x (xs.drop j) (j : Int)) := by
  intro d
  induction d with
  | zero =>
    intro k j hj hk
    obtain ⟨k, rfl⟩ : ∃ m, k = m + 1 := ⟨k - 1, by omega⟩
    simp only [impl_indexOf.l0]
    rw [if_neg (by omega), List.drop_of_length_le (by omega)]
    rfl
  | succ d ih =>
    intro k j hj hk
    obtain ⟨k, rfl⟩ : ∃ m, k = m + 1 := ⟨k - 1, by omega⟩
    have hlt : j < xs.length := by omega
    simp only [impl_indexOf.l0]
    rw [if_pos (by omega), if_pos (by omega), if_pos (by omega), rd_nat xs j hlt, List.drop_eq_getElem_cons hlt, idx]
    by_cases e : xs[j] = x
    · rw [if_pos e, if_pos e]
    · rw [if_neg e, if_neg e, w_id (by omega) (by omega), show ((j : Int) + 1) = ((j + 1 : Nat) : Int) by omega, ih k (j + 1) (by omega) (by omega)]
theorem indexOf_f (x : Int) (xs : List Int) (hx : xs.length ≤ 1000000000000) (k : Nat) (hk : xs.length < k) : impl_indexOf.f k xs x = some (idx x xs 0) := by
  unfold impl_indexOf.f
  have := indexOf_l0 x xs hx xs.length k 0 (by omega) hk
  rw [List.drop_zero] at this
  exact this
theorem sideAt_l0 (x : Int) (t : List (List Int)) (ht : t.length ≤ 1048576) (hr : ∀ r ∈ t, r.length ≤ 1048576) : ∀ (d k i : Nat), i + d = t.length → d + 1048577 < k → impl_sideAt.l0 k x t (t.length : Int) (i : Int) = some (sideR x (t.drop i) (i : Int)) := by
  intro d
  induction d with
  | zero =>
    intro k i hi hk
    obtain ⟨k, rfl⟩ : ∃ m, k = m + 1 := ⟨k - 1, by omega⟩
    simp only [impl_sideAt.l0]
    rw [if_neg (by omega), List.drop_of_length_le (by omega)]
    rfl
  | succ d ih =>
    intro k i hi hk
    obtain ⟨k, rfl⟩ : ∃ m, k = m + 1 := ⟨k - 1, by omega⟩
    have hlt : i < t.length := by omega
    have hl := hr _ (List.getElem_mem hlt)
    simp only [impl_sideAt.l0]
    rw [if_pos (by omega), if_pos (by omega), if_pos (by omega), rdL_nat t i hlt, indexOf_f x _ (by omega) k (by omega), Option.bind_some, List.drop_eq_getElem_cons hlt, sideR]
    by_cases e : 0 ≤ idx x t[i] 0
    · rw [if_pos e, if_pos e]
    · rw [if_neg e, if_neg e, w_id (by omega) (by omega), show ((i : Int) + 1) = ((i + 1 : Nat) : Int) by omega, ih k (i + 1) (by omega) (by omega)]
theorem sideAt_f (x : Int) (t : List (List Int)) (ht : t.length ≤ 1048576) (hr : ∀ r ∈ t, r.length ≤ 1048576) (k : Nat) (hk : 3000000 < k) : impl_sideAt.f k t x = some (sideR x t 0) := by
  unfold impl_sideAt.f
  have := sideAt_l0 x t ht hr t.length k 0 (by omega) (by omega)
  rw [List.drop_zero] at this
  exact this
theorem find_l1 (x : Int) (t : List (List Int)) (i : Nat) (hi : i < t.length) (hl : t[i].length = 3) : ∀ (d j k : Nat), j + d = 3 → d < k →
    spec_l16Find.l1 k t x (i : Int) (j : Int) = (if 0 ≤ idx x (t[i].drop j) (j : Int) then some ((i : Int), idx x (t[i].drop j) (j : Int)) else spec_l16Find.l0 (k - d - 1) t x (wrap64 ((i : Int) + 1))) := by
  intro d
  induction d with
  | zero =>
    intro j k hj hk
    obtain ⟨k, rfl⟩ : ∃ m, k = m + 1 := ⟨k - 1, by omega⟩
    simp only [spec_l16Find.l1]
    rw [if_neg (by omega), List.drop_of_length_le (by omega), idx, if_neg (by omega)]
    rfl
  | succ d ih =>
    intro j k hj hk
    obtain ⟨k, rfl⟩ : ∃ m, k = m + 1 := ⟨k - 1, by omega⟩
    have hlt : j < t[i].length := by omega
    simp only [spec_l16Find.l1]
    rw [if_pos (by omega), if_pos (by omega), if_pos (by omega), if_pos (by omega), rdL_nat t i hi, if_pos (by omega), rd_nat _ j hlt, List.drop_eq_getElem_cons hlt, idx]
    by_cases e : t[i][j] = x
    · rw [if_pos e, if_pos e, if_pos (by omega)]
    · rw [if_neg e, if_neg e, w_id (a := (j : Int) + 1) (by omega) (by omega), show ((j : Int) + 1) = ((j + 1 : Nat) : Int) by omega, ih (j + 1) k (by omega) (by omega), show k + 1 - (d + 1) - 1 = k - d - 1 by omega]
theorem find_l0 (x : Int) (t : List (List Int)) (ht : t.length ≤ 1048576) (hr : ∀ r ∈ t, r.length = 3) : ∀ (d k i : Nat), i + d = t.length → 5 * d < k → spec_l16Find.l0 k t x (i : Int) = some (sideR x (t.drop i) (i : Int)) := by
  intro d
  induction d with
  | zero =>
    intro k i hi hk
    obtain ⟨k, rfl⟩ : ∃ m, k = m + 1 := ⟨k - 1, by omega⟩
    simp only [spec_l16Find.l0]
    rw [if_neg (by omega), List.drop_of_length_le (by omega)]
    rfl
  | succ d ih =>
    intro k i hi hk
    obtain ⟨k, rfl⟩ : ∃ m, k = m + 1 := ⟨k - 1, by omega⟩
    have hlt : i < t.length := by omega
    have hl := hr _ (List.getElem_mem hlt)
    simp only [spec_l16Find.l0]
    rw [if_pos (by omega)]
    have := find_l1 x t i hlt hl 3 0 k (by omega) (by omega)
    rw [List.drop_zero, show ((0 : Nat) : Int) = 0 from rfl] at this
    rw [this, List.drop_eq_getElem_cons hlt, sideR]
    by_cases e : 0 ≤ idx x t[i] 0
    · rw [if_pos e, if_pos e]
    · rw [if_neg e, if_neg e, w_id (by omega) (by omega), show ((i : Int) + 1) = ((i + 1 : Nat) : Int) by omega, ih _ (i + 1) (by omega) (by omega)]
theorem find_f (x : Int) (t : List (List Int)) (ht : t.length ≤ 1048576) (hr : ∀ r ∈ t, r.length = 3) (k : Nat) (hk : 6000000 < k) : spec_l16Find.f k t x = some (sideR x t 0) := by
  unfold spec_l16Find.f
  have := find_l0 x t ht hr t.length k 0 (by omega) (by omega)
  rw [List.drop_zero] at this
  exact this
/-- An edge's number. -/
def isE (t : List (List Int)) (e : Int) : Bool := isT t && decide (1 ≤ e ∧ e ≤ edges t)
theorem spec_isE (t : List (List Int)) (ht : t.length ≤ 1048576) (e : Int) (k : Nat) (hk : 6000000 < k) : spec_l16Is.f k t e = some (isE t e) := by
  unfold spec_l16Is.f isE
  rw [spec_isT t ht k hk, Option.bind_some]
  by_cases h : isT t = true
  · rw [if_pos h, l1In_eq, Option.bind_some, h]
    rfl
  · rw [if_neg h]
    simp at h
    rw [h]
    rfl
/-- May an edge be flipped? -/
def canR (t : List (List Int)) (e : Int) : Bool := isE t e && ((sideR e t 0).1 != (sideR (-e) t 0).1)
theorem isE_bd {t : List (List Int)} {e : Int} (ht : t.length ≤ 1048576) (h : isE t e = true) : TriOk t (edges t) ∧ 1 ≤ e ∧ e ≤ edges t := by
  unfold isE at h
  rw [Bool.and_eq_true, decide_eq_true_iff] at h
  exact ⟨isT_ok ht h.1, h.2⟩
theorem spec_can (t : List (List Int)) (ht : t.length ≤ 1048576) (e : Int) (k : Nat) (hk : 6000000 < k) : spec_CanFlip.f k t e = some (canR t e) := by
  unfold spec_CanFlip.f canR
  rw [spec_isE t ht e k hk, Option.bind_some]
  by_cases h : isE t e = true
  · obtain ⟨ok, h1, h2⟩ := isE_bd ht h
    have := ok.n9
    rw [if_pos h, find_f _ t ht ok.row k hk, Option.bind_some, w_id (a := -e) (by omega) (by omega), find_f _ t ht ok.row k hk, Option.bind_some, h]
    rfl
  · rw [if_neg h]
    simp at h
    rw [h]
    rfl
theorem impl_can (t : List (List Int)) (ht : t.length ≤ 1048576) (hr : ∀ r ∈ t, r.length ≤ 1048576) (e : Int) (k : Nat) (hk : 6000001 < k) : impl_CanFlip.f k t e = some (canR t e) := by
  obtain ⟨k, rfl⟩ : ∃ m, k = m + 1 := ⟨k - 1, by omega⟩
  unfold impl_CanFlip.f canR isE
  rw [impl_isT t ht _ (by omega), Option.bind_some, within_eq, Option.bind_some]
  simp only [impl_CanFlip.j0]
  by_cases h : isT t = true
  · rw [if_pos h]
    by_cases h2 : 1 ≤ e ∧ e ≤ edges t
    · have ok := isT_ok ht h
      have := ok.n9
      rw [if_neg (by rw [show wrap64 (Int.tdiv (wrap64 (3 * (t.length : Int))) 2) = edges t from rfl, decide_eq_true h2]; decide), sideAt_f _ t ht hr k (by omega), Option.bind_some, w_id (a := -e) (by omega) (by omega), sideAt_f _ t ht hr k (by omega), Option.bind_some, h, decide_eq_true h2]
      rfl
    · rw [if_pos (by rw [show wrap64 (Int.tdiv (wrap64 (3 * (t.length : Int))) 2) = edges t from rfl, decide_eq_false h2]; decide), decide_eq_false h2, Bool.and_false, Bool.false_and]
  · rw [if_neg h, if_pos trivial]
    simp at h
    rw [h]
    rfl
end Go.Proofs.Ytolmicnapemljaa.L

namespace Go.Proofs.Ytolmicnapemljaa.L
open Go.RowKit Go.Proofs.Ytolmicnapemljaa.P Go.Proofs.Ytolmicnapemljaa.Help Go.Proofs.YtolmicnapemljaaW.PrintWords
set_option linter.unusedVariables false
set_option linter.unusedSimpArgs false

theorem getD_at {α : Type} {l : List α} (d : α) {i : Nat} (h : i < l.length) : l.getD i d = l[i] := by
  rw [List.getD_eq_getElem?_getD, List.getElem?_eq_getElem h, Option.getD_some]
/-- The letter of a side, the sides counted on from the last to the first. -/
def sideOf (t : List (List Int)) (i : Nat) (j : Nat) : Int := (t.getD i []).getD (j % 3) 0
theorem sideOf_in {t : List (List Int)} {n : Int} (ok : TriOk t n) {i : Nat} (hi : i < t.length) (j : Nat) : sideOf t i j ≠ 0 ∧ -n ≤ sideOf t i j ∧ sideOf t i j ≤ n := by
  have h3 := ok.three hi
  have hj : j % 3 < t[i].length := by omega
  have := ok.at hi hj
  unfold sideOf
  rw [getD_at _ hi, getD_at _ hj]
  exact this
theorem sideOf_eq {t : List (List Int)} {i : Nat} (hi : i < t.length) {a b c : Int} (e : t[i] = [a, b, c]) : sideOf t i 0 = a ∧ sideOf t i 1 = b ∧ sideOf t i 2 = c ∧ sideOf t i 3 = a ∧ sideOf t i 4 = b := by
  unfold sideOf
  rw [getD_at _ hi, e]
  exact ⟨rfl, rfl, rfl, rfl, rfl⟩
theorem flat3 : ∀ {t : List (List Int)}, (∀ r ∈ t, r.length = 3) → t.flatten.length = 3 * t.length
  | [], _ => rfl
  | r :: rs, h => by
    rw [List.flatten_cons, List.length_append, h r List.mem_cons_self, flat3 (fun x hx => h x (List.mem_cons_of_mem _ hx)), List.length_cons]
    omega
/-- All letters and inverses. -/
def letters (n : Nat) : List Int := (List.range n).map (fun (k : Nat) => (k : Int) + 1) ++ (List.range n).map (fun (k : Nat) => -(k : Int) - 1)
theorem mem_letters {n : Nat} {x : Int} (h0 : x ≠ 0) (h1 : -(n : Int) ≤ x) (h2 : x ≤ n) : x ∈ letters n := by
  unfold letters
  rw [List.mem_append, List.mem_map, List.mem_map]
  by_cases h : 0 < x
  · exact .inl ⟨(x - 1).toNat, List.mem_range.2 (by omega), by omega⟩
  · exact .inr ⟨(-x - 1).toNat, List.mem_range.2 (by omega), by omega⟩
theorem TriOk.all {t : List (List Int)} {n : Int} (ok : TriOk t n) {x : Int} (h0 : x ≠ 0) (h1 : -n ≤ x) (h2 : x ≤ n) : x ∈ t.flatten := by
  apply Classical.byContradiction
  intro hc
  have n3 := ok.n3
  obtain ⟨m, rfl⟩ : ∃ m : Nat, n = m := ⟨n.toNat, by omega⟩
  have hx := mem_letters h0 h1 h2
  have hs : ∀ y, y ∈ t.flatten → y ∈ (letters m).erase x := by
    intro y hy
    have hb := ok.inr y hy
    exact (List.mem_erase_of_ne (fun e => hc (by rw [← e]; exact hy))).2 (mem_letters hb.1 hb.2.1 hb.2.2)
  have hl := List.Nodup.length_le_of_subset ok.nodup hs
  rw [List.length_erase_of_mem hx, flat3 ok.row] at hl
  have : (letters m).length = 2 * m := by unfold letters; simp; omega
  have := ok.len
  omega
theorem sideR_at (x : Int) : ∀ (rs : List (List Int)) (b : Int), 0 ≤ b → x ∈ rs.flatten → ∃ i j : Nat, i < rs.length ∧ ∃ h : i < rs.length, j < rs[i].length ∧ rs[i][j]? = some x ∧ sideR x rs b = (b + i, (j : Int))
  | [], b, _, h => absurd h (by simp)
  | r :: rs, b, hb, h => by
    rw [sideR]
    by_cases hr : 0 ≤ idx x r 0
    · have h1 := idx_at x r 0 (by omega) hr
      have h2 := idx_bd x r 0 (by omega)
      rw [if_pos hr]
      refine ⟨0, (idx x r 0).toNat, by simp, by simp, ?_, ?_, ?_⟩
      · show (idx x r 0).toNat < r.length
        omega
      · show r[(idx x r 0).toNat]? = some x
        rw [Int.sub_zero] at h1
        exact h1
      · have e : ((idx x r 0).toNat : Int) = idx x r 0 := by omega
        rw [e]
        simp
    · rw [if_neg hr]
      rw [List.flatten_cons, List.mem_append] at h
      rcases h with h | h
      · have := idx_hit x r 0 (by omega) h
        exact absurd this.1 hr
      · obtain ⟨i, j, hi, hi', hj, he, hs⟩ := sideR_at x rs (b + 1) (by omega) h
        refine ⟨i + 1, j, by simpa using hi, by simpa using hi, ?_, ?_, ?_⟩
        · simpa using hj
        · simpa using he
        · rw [hs]
          refine Prod.ext ?_ rfl
          show b + 1 + (i : Int) = b + ((i + 1 : Nat) : Int)
          omega
/-- Where a letter stands. -/
theorem TriOk.side {t : List (List Int)} {n : Int} (ok : TriOk t n) {x : Int} (h0 : x ≠ 0) (h1 : -n ≤ x) (h2 : x ≤ n) : ∃ i j : Nat, i < t.length ∧ j < 3 ∧ sideR x t 0 = ((i : Int), (j : Int)) ∧ sideOf t i j = x := by
  obtain ⟨i, j, hi, _, hj, he, hs⟩ := sideR_at x t 0 (by omega) (ok.all h0 h1 h2)
  have h3 := ok.three hi
  refine ⟨i, j, hi, by omega, by rw [hs, Int.zero_add], ?_⟩
  unfold sideOf
  rw [getD_at _ hi, List.getD_eq_getElem?_getD, Nat.mod_eq_of_lt (by omega), he]
  rfl
theorem rd_side {t : List (List Int)} {n : Int} (ok : TriOk t n) {i : Nat} (hi : i < t.length) (j : Nat) : rd (rd_L1 t (i : Int)) (Int.tmod (j : Int) 3) = sideOf t i j := by
  have h3 := ok.three hi
  rw [rdL_nat t i hi, Int.tmod_eq_emod_of_nonneg (by omega), show ((j : Int) % 3) = ((j % 3 : Nat) : Int) by omega, rd_nat _ _ (by omega)]
  unfold sideOf
  rw [getD_at _ hi, getD_at _ (by omega)]
end Go.Proofs.Ytolmicnapemljaa.L

namespace Go.Proofs.Ytolmicnapemljaa.L
open Go.RowKit Go.Proofs.Ytolmicnapemljaa.P Go.Proofs.Ytolmicnapemljaa.Help Go.Proofs.YtolmicnapemljaaW.PrintWords
set_option linter.unusedVariables false
set_option linter.unusedSimpArgs false

theorem l3Abs_eq {a : Int} (h0 : -9223372036854775807 ≤ a) (h1 : a ≤ 9223372036854775807) : spec_l3Abs.f a = some (a.natAbs : Int) := by
  unfold spec_l3Abs.f spec_l1Max.f
  rw [w_id (by omega) (by omega)]
  by_cases h : a > -a
  · rw [if_pos h]; simp only [Option.bind_some]; congr 1; omega
  · rw [if_neg h]; simp only [Option.bind_some]; congr 1; omega
theorem size_eq {a : Int} (h0 : -9223372036854775807 ≤ a) (h1 : a ≤ 9223372036854775807) : impl_size.f a = some (a.natAbs : Int) := by
  unfold impl_size.f
  rw [w_id (by omega) (by omega)]
  congr 1
  unfold mx
  split <;> omega
end Go.Proofs.Ytolmicnapemljaa.L

namespace Go.Proofs.Ytolmicnapemljaa.L
open Go.RowKit Go.Proofs.Ytolmicnapemljaa.P Go.Proofs.Ytolmicnapemljaa.Help Go.Proofs.YtolmicnapemljaaW.PrintWords
set_option linter.unusedVariables false
set_option linter.unusedSimpArgs false

theorem bit_eq (b : Bool) : spec_l1Bit.f b = some (if b = true then 1 else 0) := by
  unfold spec_l1Bit.f
  split <;> rfl
theorem rd_at {t : List (List Int)} {n : Int} (ok : TriOk t n) {i : Nat} (hi : i < t.length) {j : Nat} (hj : j < 3) : rd (rd_L1 t (i : Int)) (j : Int) = sideOf t i j := by
  have := rd_side ok hi j
  rwa [Int.tmod_eq_emod_of_nonneg (by omega), show (j : Int) % 3 = (j : Int) by omega] at this
theorem sideOf_mod (t : List (List Int)) (i j : Nat) : sideOf t i (j % 3) = sideOf t i j := by
  unfold sideOf
  rw [Nat.mod_mod]
theorem flat_at : ∀ {t : List (List Int)}, (∀ r ∈ t, r.length = 3) → ∀ {i j : Nat}, i < t.length → j < 3 → t.flatten[3 * i + j]? = some (sideOf t i j)
  | [], _, i, j, hi, _ => absurd hi (by simp)
  | r :: rs, h, 0, j, hi, hj => by
    have hl := h r List.mem_cons_self
    rw [List.flatten_cons, List.getElem?_append_left (by omega), List.getElem?_eq_getElem (by omega)]
    unfold sideOf
    rw [List.getD_cons_zero, List.getD_eq_getElem?_getD, List.getElem?_eq_getElem (show j % 3 < r.length by omega), Option.getD_some]
    congr 1
    congr 1
    omega
  | r :: rs, h, i + 1, j, hi, hj => by
    have hl := h r List.mem_cons_self
    have ih := flat_at (t := rs) (fun x hx => h x (List.mem_cons_of_mem _ hx)) (i := i) (j := j) (by simpa using hi) hj
    rw [List.flatten_cons, List.getElem?_append_right (by omega), show 3 * (i + 1) + j - r.length = 3 * i + j by omega, ih]
    rfl
/-- A letter stands at one place only. -/
theorem side_inj {t : List (List Int)} {n : Int} (ok : TriOk t n) {i j k l : Nat} (hi : i < t.length) (hj : j < 3) (hk : k < t.length) (hl : l < 3) (e : sideOf t i j = sideOf t k l) : i = k ∧ j = l := by
  have a := flat_at ok.row hi hj
  have b := flat_at ok.row hk hl
  rw [e] at a
  obtain ⟨a1, a2⟩ := List.getElem?_eq_some_iff.1 a
  obtain ⟨b1, b2⟩ := List.getElem?_eq_some_iff.1 b
  have hp := List.pairwise_iff_getElem.1 ok.nodup
  rcases Nat.lt_trichotomy (3 * i + j) (3 * k + l) with h | h | h
  · exact absurd (a2.trans b2.symm) (hp _ _ a1 b1 h)
  · omega
  · exact absurd (b2.trans a2.symm) (hp _ _ b1 a1 h)
theorem side_at {t : List (List Int)} {n : Int} (ok : TriOk t n) {i j : Nat} (hi : i < t.length) (hj : j < 3) : sideR (sideOf t i j) t 0 = ((i : Int), (j : Int)) := by
  have hs := sideOf_in ok hi j
  obtain ⟨o, a, ho, ha, h1, h2⟩ := ok.side hs.1 hs.2.1 hs.2.2
  obtain ⟨rfl, rfl⟩ := side_inj ok ho ha hi hj h2
  exact h1
/-- Corners, and the beginnings and ends of edges. -/
def cor (i j : Nat) : Int := 3 * (i : Int) + ((j % 3 : Nat) : Int)
def Bg (s : Int) : Int := 2 * (s.natAbs : Int) + (if s < 0 then 1 else 0)
def En (s : Int) : Int := 2 * (s.natAbs : Int) + (if s > 0 then 1 else 0)
theorem En_neg {s : Int} (h : s ≠ 0) : En s = Bg (-s) := by
  unfold En Bg
  rw [Int.natAbs_neg]
  split <;> split <;> omega
/-- The place of the inverse of a side. -/
def opp (t : List (List Int)) (i j : Nat) : Nat × Nat := ((sideR (-(sideOf t i j)) t 0).1.toNat, (sideR (-(sideOf t i j)) t 0).2.toNat)
theorem opp_at {t : List (List Int)} {n : Int} (ok : TriOk t n) {i : Nat} (hi : i < t.length) (j : Nat) : (opp t i j).1 < t.length ∧ (opp t i j).2 < 3 ∧ sideOf t (opp t i j).1 (opp t i j).2 = -(sideOf t i j) ∧ sideR (-(sideOf t i j)) t 0 = (((opp t i j).1 : Int), ((opp t i j).2 : Int)) := by
  have hs := sideOf_in ok hi j
  obtain ⟨o, a, ho, ha, h1, h2⟩ := ok.side (x := -(sideOf t i j)) (by omega) (by omega) (by omega)
  unfold opp
  rw [h1]
  exact ⟨ho, ha, h2, rfl⟩
def vp (t : List (List Int)) (i j : Nat) : List (Int × Int) := [(cor i j, cor (opp t i j).1 ((opp t i j).2 + 1)), (cor i (j + 1), cor (opp t i j).1 (opp t i j).2)]
def ep (t : List (List Int)) (i j : Nat) : List (Int × Int) := [(En (sideOf t i j), Bg (sideOf t i (j + 1)))]
theorem cor_bd {t : List (List Int)} {i : Nat} (hi : i < t.length) (j : Nat) : 0 ≤ cor i j ∧ cor i j < 3 * (t.length : Int) := by
  unfold cor
  omega
theorem Bg_bd {t : List (List Int)} {n : Int} (ok : TriOk t n) {i : Nat} (hi : i < t.length) (j : Nat) : 0 ≤ Bg (sideOf t i j) ∧ Bg (sideOf t i j) < 3 * (t.length : Int) + 2 := by
  have hs := sideOf_in ok hi j
  have := ok.len
  unfold Bg
  split <;> omega
theorem En_bd {t : List (List Int)} {n : Int} (ok : TriOk t n) {i : Nat} (hi : i < t.length) (j : Nat) : 0 ≤ En (sideOf t i j) ∧ En (sideOf t i j) < 3 * (t.length : Int) + 2 := by
  have hs := sideOf_in ok hi j
  have := ok.len
  unfold En
  split <;> omega
theorem tmod3 (m : Nat) : Int.tmod (m : Int) 3 = ((m % 3 : Nat) : Int) := by
  rw [Int.tmod_eq_emod_of_nonneg (by omega)]
  omega
theorem w_n {a : Int} {m : Nat} (h : a = (m : Int)) (hm : m ≤ 1000000) : wrap64 a = (m : Int) := by
  rw [h]
  exact w_id (by omega) (by omega)
theorem vert_l1 {t : List (List Int)} {n : Int} (ok : TriOk t n) (ht : t.length ≤ 1048576) (hr : ∀ r ∈ t, r.length ≤ 1048576) {i : Nat} (hi : i < t.length) : ∀ (d j k : Nat) (xs : List Int) (ps : List (Int × Int)), j + d = 3 → 3000100 + d < k → UF.Stands xs (3 * (t.length : Int)) ps →
    ∃ ys, impl_vertices.l1 k t xs (i : Int) (j : Int) = impl_vertices.l0 (k - d - 1) t ys ((i + 1 : Nat) : Int) ∧ UF.Stands ys (3 * (t.length : Int)) (ps ++ rowG (vp t) i d j) := by
  have h3 := ok.three hi
  have hs := ok.short
  have hl : ((rd_L1 t (i : Int)).length : Int) = 3 := by rw [rdL_nat t i hi, h3]; rfl
  intro d
  induction d with
  | zero =>
    intro j k xs ps hj hk h
    obtain ⟨k, rfl⟩ : ∃ m, k = m + 1 := ⟨k - 1, by omega⟩
    refine ⟨xs, ?_, by simpa [rowG] using h⟩
    simp only [impl_vertices.l1]
    rw [hl, if_neg (by omega), w_n (m := i + 1) (by omega) (by omega)]
    rfl
  | succ d ih =>
    intro j k xs ps hj hk h
    obtain ⟨k, rfl⟩ : ∃ m, k = m + 1 := ⟨k - 1, by omega⟩
    have hn := h.len
    have hs1 := sideOf_in ok hi j
    have n9 := ok.n9
    obtain ⟨o1, o2, o3, o4⟩ := opp_at ok hi j
    obtain ⟨ys, e1, S1⟩ := join_f h (a := cor i j) (b := cor (opp t i j).1 ((opp t i j).2 + 1)) (cor_bd hi j) (cor_bd o1 _) (m := k) (by omega)
    have hn1 := S1.len
    obtain ⟨zs, e2, S2⟩ := join_f S1 (a := cor i (j + 1)) (b := cor (opp t i j).1 (opp t i j).2) (cor_bd hi _) (cor_bd o1 _) (m := k) (by omega)
    obtain ⟨us, e3, S3⟩ := ih (j + 1) k zs _ (by omega) (by omega) S2
    refine ⟨us, ?_, ?_⟩
    · simp only [impl_vertices.l1]
      rw [hl, if_pos (by omega), if_pos (by omega), rd_at ok hi (by omega), w_id (a := -(sideOf t i j)) (by omega) (by omega), sideAt_f _ t ht hr k (by omega), Option.bind_some, o4]
      dsimp only
      rw [show wrap64 (3 * (i : Int)) = ((3 * i : Nat) : Int) from w_n (by omega) (by omega), show wrap64 (3 * ((opp t i j).1 : Int)) = ((3 * (opp t i j).1 : Nat) : Int) from w_n (by omega) (by omega),
        show wrap64 (((opp t i j).2 : Int) + 1) = (((opp t i j).2 + 1 : Nat) : Int) from w_n (by omega) (by omega), show wrap64 ((j : Int) + 1) = ((j + 1 : Nat) : Int) from w_n (by omega) (by omega), tmod3, tmod3,
        show wrap64 (((3 * i : Nat) : Int) + (j : Int)) = cor i j from by rw [w_n (m := 3 * i + j) (by omega) (by omega)]; unfold cor; omega,
        show wrap64 (((3 * (opp t i j).1 : Nat) : Int) + (((((opp t i j).2 + 1) % 3 : Nat)) : Int)) = cor (opp t i j).1 ((opp t i j).2 + 1) from by rw [w_n (m := 3 * (opp t i j).1 + ((opp t i j).2 + 1) % 3) (by omega) (by omega)]; unfold cor; omega,
        e1, Option.bind_some,
        show wrap64 (((3 * i : Nat) : Int) + ((((j + 1) % 3 : Nat)) : Int)) = cor i (j + 1) from by rw [w_n (m := 3 * i + (j + 1) % 3) (by omega) (by omega)]; unfold cor; omega,
        show wrap64 (((3 * (opp t i j).1 : Nat) : Int) + ((opp t i j).2 : Int)) = cor (opp t i j).1 (opp t i j).2 from by rw [w_n (m := 3 * (opp t i j).1 + (opp t i j).2) (by omega) (by omega)]; unfold cor; omega,
        e2, Option.bind_some, e3, show k + 1 - (d + 1) - 1 = k - d - 1 by omega]
    · rw [rowG, show vp t i j = [(cor i j, cor (opp t i j).1 ((opp t i j).2 + 1)), (cor i (j + 1), cor (opp t i j).1 (opp t i j).2)] from rfl]
      simpa [List.append_assoc] using S3
theorem vert_l0 {t : List (List Int)} {n : Int} (ok : TriOk t n) (ht : t.length ≤ 1048576) (hr : ∀ r ∈ t, r.length ≤ 1048576) : ∀ (d i k : Nat) (xs : List Int) (ps : List (Int × Int)), i + d = t.length → 3000200 + 5 * d < k → UF.Stands xs (3 * (t.length : Int)) ps →
    ∃ ys, impl_vertices.l0 k t xs (i : Int) = some ys ∧ UF.Stands ys (3 * (t.length : Int)) (ps ++ allG (vp t) d i) := by
  intro d
  induction d with
  | zero =>
    intro i k xs ps hi hk h
    obtain ⟨k, rfl⟩ : ∃ m, k = m + 1 := ⟨k - 1, by omega⟩
    refine ⟨xs, ?_, by simpa [allG] using h⟩
    simp only [impl_vertices.l0]
    rw [if_neg (by omega)]
  | succ d ih =>
    intro i k xs ps hi hk h
    obtain ⟨k, rfl⟩ : ∃ m, k = m + 1 := ⟨k - 1, by omega⟩
    obtain ⟨ys, e1, S1⟩ := vert_l1 ok ht hr (i := i) (by omega) 3 0 k xs ps (by omega) (by omega) h
    obtain ⟨zs, e2, S2⟩ := ih (i + 1) (k - 3 - 1) ys _ (by omega) (by omega) S1
    refine ⟨zs, ?_, by rw [allG, ← List.append_assoc]; exact S2⟩
    simp only [impl_vertices.l0]
    rw [if_pos (by omega), if_pos (by omega)]
    have e1' : impl_vertices.l1 k t xs (i : Int) 0 = impl_vertices.l0 (k - 3 - 1) t ys ((i + 1 : Nat) : Int) := e1
    rw [e1', e2]
theorem vert_f {t : List (List Int)} {n : Int} (ok : TriOk t n) (ht : t.length ≤ 1048576) (hr : ∀ r ∈ t, r.length ≤ 1048576) (k : Nat) (hk : 3000300 < k) : ∃ ys, impl_vertices.f k t = some ys ∧ UF.Stands ys (3 * (t.length : Int)) (allG (vp t) t.length 0) := by
  have hs := ok.short
  have h0 := UF.alone_stands (3 * t.length)
  have e0 : (((3 * t.length : Nat)) : Int) = 3 * (t.length : Int) := by omega
  rw [e0] at h0
  obtain ⟨ys, e, S⟩ := vert_l0 ok ht hr t.length 0 k _ [] (by omega) (by omega) h0
  refine ⟨ys, ?_, by simpa using S⟩
  unfold impl_vertices.f
  rw [show wrap64 (3 * (t.length : Int)) = ((3 * t.length : Nat) : Int) from w_n (by omega) (by omega), newJoiner_f _ (by omega) k (by omega), Option.bind_some]
  exact e
theorem ends_l2 {t : List (List Int)} {n : Int} (ok : TriOk t n) {i : Nat} (hi : i < t.length) : ∀ (d j k : Nat) (xs : List Int) (ps : List (Int × Int)), j + d = 3 → 100 + d < k → UF.Stands xs (3 * (t.length : Int) + 2) ps →
    ∃ ys, spec_l15Ends.l2 k t xs (i : Int) (j : Int) = spec_l15Ends.l1 (k - d - 1) t ys ((i + 1 : Nat) : Int) ∧ UF.Stands ys (3 * (t.length : Int) + 2) (ps ++ rowG (ep t) i d j) := by
  have h3 := ok.three hi
  have hs := ok.short
  have hl : ((rd_L1 t (i : Int)).length : Int) = 3 := by rw [rdL_nat t i hi, h3]; rfl
  intro d
  induction d with
  | zero =>
    intro j k xs ps hj hk h
    obtain ⟨k, rfl⟩ : ∃ m, k = m + 1 := ⟨k - 1, by omega⟩
    refine ⟨xs, ?_, by simpa [rowG] using h⟩
    simp only [spec_l15Ends.l2]
    rw [if_neg (by omega), w_n (m := i + 1) (by omega) (by omega)]
    rfl
  | succ d ih =>
    intro j k xs ps hj hk h
    obtain ⟨k, rfl⟩ : ∃ m, k = m + 1 := ⟨k - 1, by omega⟩
    have hn := h.len
    have a1 := sideOf_in ok hi j
    have a2 := sideOf_in ok hi (j + 1)
    have n9 := ok.n9
    have b1 := En_bd ok hi j
    have b2 := Bg_bd ok hi (j + 1)
    have r1 := h.ok.rt b1.1 (by omega)
    have r2 := h.ok.rt b2.1 (by omega)
    have c1 := h.ok.bd r1 b1.1 (by omega)
    have J := (h.join b1 b2 r1 r2).1
    obtain ⟨us, e3, S3⟩ := ih (j + 1) k _ _ (by omega) (by omega) J
    refine ⟨us, ?_, ?_⟩
    · have x1 : (j : Int) < 3 := by omega
      have x2 : (0 : Int) ≤ (i : Int) := by omega
      have x3 : (i : Int) < (t.length : Int) := by omega
      have x4 : (0 : Int) ≤ (j : Int) := by omega
      have x5 : j < 3 := by omega
      have x6 : k + 1 - (d + 1) - 1 = k - d - 1 := by omega
      have y1 := l3Abs_eq (a := sideOf t i j) (by omega) (by omega)
      have y2 := l3Abs_eq (a := sideOf t i (j + 1)) (by omega) (by omega)
      have z1 := find3_f h.ok b1.1 (m := k) (by omega) (by omega)
      have z2 := find3_f h.ok b2.1 (m := k) (by omega) (by omega)
      have q1 : 0 ≤ Int.tmod (((j + 1 : Nat)) : Int) 3 := by rw [tmod3]; omega
      have q2 : Int.tmod (((j + 1 : Nat)) : Int) 3 < 3 := by rw [tmod3]; omega
      have w1 : wrap64 ((j : Int) + 1) = ((j + 1 : Nat) : Int) := w_n (by omega) (by omega)
      have v1 : wrap64 (wrap64 (2 * ((sideOf t i j).natAbs : Int)) + (if decide (sideOf t i j > 0) = true then 1 else 0)) = En (sideOf t i j) := by
        rw [w_id (a := 2 * ((sideOf t i j).natAbs : Int)) (by omega) (by omega)]
        unfold En
        by_cases c : sideOf t i j > 0
        · rw [if_pos (decide_eq_true c), if_pos c, w_id (by omega) (by omega)]
        · rw [if_neg (by simpa using c), if_neg c, w_id (by omega) (by omega)]
      have v2 : wrap64 (wrap64 (2 * ((sideOf t i (j + 1)).natAbs : Int)) + (if decide (sideOf t i (j + 1) < 0) = true then 1 else 0)) = Bg (sideOf t i (j + 1)) := by
        rw [w_id (a := 2 * ((sideOf t i (j + 1)).natAbs : Int)) (by omega) (by omega)]
        unfold Bg
        by_cases c : sideOf t i (j + 1) < 0
        · rw [if_pos (decide_eq_true c), if_pos c, w_id (by omega) (by omega)]
        · rw [if_neg (by simpa using c), if_neg c, w_id (by omega) (by omega)]
      simp only [spec_l15Ends.l2]
      rw [w1, hl, if_pos x1, if_pos x2, if_pos x3, if_pos x4, if_pos x1, if_pos q1, if_pos q2]
      rw [rd_at ok hi x5, rd_side ok hi, y1, Option.bind_some, bit_eq, Option.bind_some, v1, z1, Option.bind_some, y2, Option.bind_some, bit_eq, Option.bind_some, v2, z2, Option.bind_some, if_pos c1.1, if_pos c1.2, e3, x6]
    · rw [rowG, show ep t i j = [(En (sideOf t i j), Bg (sideOf t i (j + 1)))] from rfl]
      simpa [List.append_assoc] using S3
theorem ends_l1 {t : List (List Int)} {n : Int} (ok : TriOk t n) : ∀ (d i k : Nat) (xs : List Int) (ps : List (Int × Int)), i + d = t.length → 200 + 5 * d < k → UF.Stands xs (3 * (t.length : Int) + 2) ps →
    ∃ ys, spec_l15Ends.l1 k t xs (i : Int) = some ys ∧ UF.Stands ys (3 * (t.length : Int) + 2) (ps ++ allG (ep t) d i) := by
  intro d
  induction d with
  | zero =>
    intro i k xs ps hi hk h
    obtain ⟨k, rfl⟩ : ∃ m, k = m + 1 := ⟨k - 1, by omega⟩
    refine ⟨xs, ?_, by simpa [allG] using h⟩
    simp only [spec_l15Ends.l1]
    rw [if_neg (by omega)]
  | succ d ih =>
    intro i k xs ps hi hk h
    obtain ⟨k, rfl⟩ : ∃ m, k = m + 1 := ⟨k - 1, by omega⟩
    obtain ⟨ys, e1, S1⟩ := ends_l2 ok (i := i) (by omega) 3 0 k xs ps (by omega) (by omega) h
    obtain ⟨zs, e2, S2⟩ := ih (i + 1) (k - 3 - 1) ys _ (by omega) (by omega) S1
    refine ⟨zs, ?_, by rw [allG, ← List.append_assoc]; exact S2⟩
    simp only [spec_l15Ends.l1]
    rw [if_pos (by omega)]
    have e1' : spec_l15Ends.l2 k t xs (i : Int) 0 = spec_l15Ends.l1 (k - 3 - 1) t ys ((i + 1 : Nat) : Int) := e1
    rw [e1', e2]
theorem ends_l0 (t : List (List Int)) (ht : t.length ≤ 1000) : ∀ (d k i : Nat), i + d = 3 * t.length + 2 → d < k → spec_l15Ends.l0 k t (UF.alone i) (i : Int) = spec_l15Ends.l1 (k - d - 1) t (UF.alone (3 * t.length + 2)) 0 := by
  intro d
  induction d with
  | zero =>
    intro k i hi hk
    obtain ⟨k, rfl⟩ : ∃ m, k = m + 1 := ⟨k - 1, by omega⟩
    simp only [spec_l15Ends.l0]
    rw [w_id (a := 3 * (t.length : Int)) (by omega) (by omega), w_id (a := 3 * (t.length : Int) + 1) (by omega) (by omega), if_neg (by omega), show i = 3 * t.length + 2 by omega]
    rfl
  | succ d ih =>
    intro k i hi hk
    obtain ⟨k, rfl⟩ : ∃ m, k = m + 1 := ⟨k - 1, by omega⟩
    simp only [spec_l15Ends.l0]
    rw [w_id (a := 3 * (t.length : Int)) (by omega) (by omega), w_id (a := 3 * (t.length : Int) + 1) (by omega) (by omega), if_pos (by omega), if_pos (by rw [alone_len]; omega), show wrap64 ((i : Int) + 1) = ((i + 1 : Nat) : Int) from w_n (by omega) (by omega), ← alone_succ, ih k (i + 1) (by omega) (by omega), show k + 1 - (d + 1) - 1 = k - d - 1 by omega]
theorem ends_f {t : List (List Int)} {n : Int} (ok : TriOk t n) (k : Nat) (hk : 1000 < k) : ∃ ys, spec_l15Ends.f k t = some ys ∧ UF.Stands ys (3 * (t.length : Int) + 2) (allG (ep t) t.length 0) := by
  have hs := ok.short
  have h0 := UF.alone_stands (3 * t.length + 2)
  have e0 : (((3 * t.length + 2 : Nat)) : Int) = 3 * (t.length : Int) + 2 := by omega
  rw [e0] at h0
  obtain ⟨ys, e, S⟩ := ends_l1 ok t.length 0 (k - (3 * t.length + 2) - 1) _ [] (by omega) (by omega) h0
  refine ⟨ys, ?_, by simpa using S⟩
  unfold spec_l15Ends.f
  have := ends_l0 t (by omega) (3 * t.length + 2) k 0 (by omega) (by omega)
  exact this.trans e
/-- The corner with a beginning. -/
def gm (t : List (List Int)) (e : Int) : Int := if e < 2 then 0 else (let x : Int := if e % 2 = 0 then e / 2 else -(e / 2); 3 * (sideR x t 0).1 + (sideR x t 0).2)
def fm (t : List (List Int)) (c : Int) : Int := Bg (sideOf t (c / 3).toNat (c % 3).toNat)
theorem fm_cor (t : List (List Int)) (i j : Nat) : fm t (cor i j) = Bg (sideOf t i j) := by
  unfold fm cor
  rw [show ((3 * (i : Int) + ((j % 3 : Nat) : Int)) / 3).toNat = i by omega, show ((3 * (i : Int) + ((j % 3 : Nat) : Int)) % 3).toNat = j % 3 by omega, sideOf_mod]
theorem gm_Bg {t : List (List Int)} {n : Int} (ok : TriOk t n) {i j : Nat} (hi : i < t.length) (hj : j < 3) : gm t (Bg (sideOf t i j)) = cor i j := by
  have hs := sideOf_in ok hi j
  have hx : (if Bg (sideOf t i j) % 2 = 0 then Bg (sideOf t i j) / 2 else -(Bg (sideOf t i j) / 2)) = sideOf t i j := by
    unfold Bg
    by_cases c : sideOf t i j < 0
    · rw [if_pos c, if_neg (by omega)]; omega
    · rw [if_neg c, if_pos (by omega)]; omega
  unfold gm
  rw [if_neg (by unfold Bg; split <;> omega), hx]
  dsimp only
  rw [side_at ok hi hj]
  unfold cor
  omega
theorem gm_Bg' {t : List (List Int)} {n : Int} (ok : TriOk t n) {i : Nat} (hi : i < t.length) (j : Nat) : gm t (Bg (sideOf t i j)) = cor i j := by
  have := gm_Bg ok hi (j := j % 3) (by omega)
  rw [sideOf_mod] at this
  rw [this]
  unfold cor
  rw [Nat.mod_mod]
theorem gm_bd {t : List (List Int)} {n : Int} (ok : TriOk t n) (e : Int) (h0 : 0 ≤ e) (h1 : e < 3 * (t.length : Int) + 2) : 0 ≤ gm t e ∧ gm t e < 3 * (t.length : Int) := by
  have hs := ok.short
  have hl := ok.len
  unfold gm
  by_cases c : e < 2
  · rw [if_pos c]; omega
  · rw [if_neg c]
    dsimp only
    obtain ⟨o, a, ho, ha, h2, _⟩ := ok.side (x := if e % 2 = 0 then e / 2 else -(e / 2)) (by split <;> omega) (by split <;> omega) (by split <;> omega)
    rw [h2]
    dsimp only
    omega
/-- The classes are the same ones. -/
theorem cls_fm {t : List (List Int)} {n : Int} (ok : TriOk t n) {c d : Int} (hc : 0 ≤ c ∧ c < 3 * (t.length : Int)) (hd : 0 ≤ d ∧ d < 3 * (t.length : Int)) :
    UF.Cls (3 * (t.length : Int)) (allG (vp t) t.length 0) c d ↔ UF.Cls (3 * (t.length : Int) + 2) (allG (ep t) t.length 0) (fm t c) (fm t d) := by
  have corOf : ∀ c : Int, 0 ≤ c → c < 3 * (t.length : Int) → ∃ i j : Nat, i < t.length ∧ j < 3 ∧ c = cor i j := by
    intro c h0 h1
    exact ⟨(c / 3).toNat, (c % 3).toNat, by omega, by omega, by unfold cor; omega⟩
  have fb : ∀ c : Int, 0 ≤ c → c < 3 * (t.length : Int) → 0 ≤ fm t c ∧ fm t c < 3 * (t.length : Int) + 2 := by
    intro c h0 h1
    obtain ⟨i, j, hi, hj, rfl⟩ := corOf c h0 h1
    rw [fm_cor]
    exact Bg_bd ok hi j
  have epm : ∀ i j : Nat, i < t.length → j < 3 → UF.Cls (3 * (t.length : Int) + 2) (allG (ep t) t.length 0) (En (sideOf t i j)) (Bg (sideOf t i (j + 1))) := by
    intro i j hi hj
    refine .pair ((mem_allG _ _).2 ⟨i, by omega, by omega, j, hj, by simp [ep]⟩) ?_ ?_ ?_ ?_
    · exact (En_bd ok hi j).1
    · exact (En_bd ok hi j).2
    · exact (Bg_bd ok hi (j + 1)).1
    · exact (Bg_bd ok hi (j + 1)).2
  have vpm : ∀ i j : Nat, i < t.length → j < 3 → ∀ p, p ∈ vp t i j → UF.Cls (3 * (t.length : Int)) (allG (vp t) t.length 0) p.1 p.2 := by
    intro i j hi hj p hp
    obtain ⟨o1, o2, o3, o4⟩ := opp_at ok hi j
    have hm : p ∈ allG (vp t) t.length 0 := (mem_allG _ _).2 ⟨i, by omega, by omega, j, hj, hp⟩
    have hp' : p = (cor i j, cor (opp t i j).1 ((opp t i j).2 + 1)) ∨ p = (cor i (j + 1), cor (opp t i j).1 (opp t i j).2) := by simpa [vp] using hp
    rcases hp' with e | e
    · subst e
      exact .pair hm (cor_bd hi _).1 (cor_bd hi _).2 (cor_bd o1 _).1 (cor_bd o1 _).2
    · subst e
      exact .pair hm (cor_bd hi _).1 (cor_bd hi _).2 (cor_bd o1 _).1 (cor_bd o1 _).2
  constructor
  · intro h
    refine h.map (fm t) (fun i a b => fb i a b) ?_
    intro a b hm _ _ _ _
    obtain ⟨i, _, hi, j, hj, hp⟩ := (mem_allG _ _).1 hm
    have hi' : i < t.length := by omega
    obtain ⟨o1, o2, o3, o4⟩ := opp_at ok hi' j
    have hs := sideOf_in ok hi' j
    have hp' : (a, b) = (cor i j, cor (opp t i j).1 ((opp t i j).2 + 1)) ∨ (a, b) = (cor i (j + 1), cor (opp t i j).1 (opp t i j).2) := by simpa [vp] using hp
    rcases hp' with e | e
    · obtain ⟨rfl, rfl⟩ := Prod.mk.inj e
      rw [fm_cor, fm_cor]
      have := epm _ _ o1 o2
      rw [o3, En_neg (by omega), Int.neg_neg] at this
      exact this
    · obtain ⟨rfl, rfl⟩ := Prod.mk.inj e
      rw [fm_cor, fm_cor, o3, ← En_neg hs.1]
      exact (epm i j hi' hj).symm
  · intro h
    have := UF.Cls.map (p2 := allG (vp t) t.length 0) (n2 := 3 * (t.length : Int)) (gm t) (fun e a b => gm_bd ok e a b) (fun a b hm _ _ _ _ => by
      obtain ⟨i, _, hi, j, hj, hp⟩ := (mem_allG _ _).1 hm
      have hi' : i < t.length := by omega
      obtain ⟨o1, o2, o3, o4⟩ := opp_at ok hi' j
      have hs := sideOf_in ok hi' j
      have hp' : (a, b) = (En (sideOf t i j), Bg (sideOf t i (j + 1))) := by simpa [ep] using hp
      obtain ⟨rfl, rfl⟩ := Prod.mk.inj hp'
      rw [En_neg hs.1, ← o3, gm_Bg' ok o1, gm_Bg' ok hi']
      exact (vpm i j hi' hj (cor i (j + 1), cor (opp t i j).1 (opp t i j).2) (by simp [vp])).symm) h
    obtain ⟨i, j, hi, hj, rfl⟩ := corOf c hc.1 hc.2
    obtain ⟨k, l, hk, hl, rfl⟩ := corOf d hd.1 hd.2
    rwa [fm_cor, fm_cor, gm_Bg' ok hi, gm_Bg' ok hk] at this
end Go.Proofs.Ytolmicnapemljaa.L

namespace Go.Proofs.Ytolmicnapemljaa.L
open Go.RowKit Go.Proofs.Ytolmicnapemljaa.P Go.Proofs.Ytolmicnapemljaa.Help Go.Proofs.YtolmicnapemljaaW.PrintWords
set_option linter.unusedVariables false
set_option linter.unusedSimpArgs false

/-- Are two corners at one vertex? -/
def SameV (t : List (List Int)) (c d : Int) : Prop := UF.Cls (3 * (t.length : Int)) (allG (vp t) t.length 0) c d
noncomputable def vind (t : List (List Int)) (c d : Int) : Int := by
  classical
  exact if SameV t d c then 1 else 0
theorem vind_if {t : List (List Int)} {c d : Int} {P : Prop} [Decidable P] (h : P ↔ SameV t d c) : vind t c d = if P then 1 else 0 := by
  unfold vind
  by_cases p : P
  · rw [if_pos p, if_pos (h.1 p)]
  · rw [if_neg p, if_neg (fun q => p (h.2 q))]
theorem vind_bd (t : List (List Int)) (c d : Int) : 0 ≤ vind t c d ∧ vind t c d ≤ 1 := by
  unfold vind
  split <;> omega
noncomputable def valE (t : List (List Int)) (c e : Int) : Int := vind t c (cor (sideR e t 0).1.toNat (sideR e t 0).2.toNat) + vind t c (cor (sideR e t 0).1.toNat ((sideR e t 0).2.toNat + 1))
theorem valE_bd (t : List (List Int)) (c e : Int) : 0 ≤ valE t c e ∧ valE t c e ≤ 2 := by
  have := vind_bd t c (cor (sideR e t 0).1.toNat (sideR e t 0).2.toNat)
  have := vind_bd t c (cor (sideR e t 0).1.toNat ((sideR e t 0).2.toNat + 1))
  unfold valE
  omega
def posE (t : List (List Int)) (e : Int) : Nat := 3 * (sideR e t 0).1.toNat + (sideR e t 0).2.toNat
noncomputable def aroundR (t : List (List Int)) (n : Nat) (c : Int) : List Int := (List.range n).map fun (q : Nat) => valE t c ((q : Int) + 1)
noncomputable def stO (t : List (List Int)) (n : Nat) (c : Int) (m : Nat) : List Int := (List.range n).map fun (q : Nat) => if posE t ((q : Int) + 1) < m then valE t c ((q : Int) + 1) else 0
theorem stO_len (t : List (List Int)) (n : Nat) (c : Int) (m : Nat) : (stO t n c m).length = n := by simp [stO]
theorem stO_at {t : List (List Int)} {n : Nat} {c : Int} {m q : Nat} (h : q < (stO t n c m).length) : (stO t n c m)[q] = if posE t ((q : Int) + 1) < m then valE t c ((q : Int) + 1) else 0 := by
  have h' : q < n := by rw [stO_len] at h; exact h
  have e : (stO t n c m)[q]? = some (if posE t ((q : Int) + 1) < m then valE t c ((q : Int) + 1) else 0) := by
    unfold stO
    rw [List.getElem?_map, List.getElem?_range h']
    rfl
  rw [List.getElem?_eq_getElem h] at e
  exact Option.some.inj e
theorem posE_at {t : List (List Int)} {n : Int} (ok : TriOk t n) {i j : Nat} (hi : i < t.length) (hj : j < 3) {q : Int} (h0 : 0 < q) (h1 : q ≤ n) : posE t q = 3 * i + j ↔ sideOf t i j = q := by
  obtain ⟨o, a, ho, ha, s1, s2⟩ := ok.side (x := q) (by omega) (by omega) h1
  unfold posE
  rw [s1]
  dsimp only
  rw [Int.toNat_natCast, Int.toNat_natCast]
  constructor
  · intro e
    obtain ⟨rfl, rfl⟩ : o = i ∧ a = j := by omega
    exact s2
  · intro e
    obtain ⟨rfl, rfl⟩ := side_inj ok hi hj ho ha (e.trans s2.symm)
    rfl
theorem inc1_some {P : Prop} [Decidable P] {out : List Int} {z : Nat} (hz : z < out.length) (h0 : 0 ≤ out[z]) (h1 : out[z] ≤ 10) : inc1 P out (z : Int) = some (out.set z (out[z] + (if P then 1 else 0))) := by
  unfold inc1
  by_cases p : P
  · rw [if_pos p, if_pos p, if_pos (by omega), if_pos (by omega), rd_nat out z hz, w_id (by omega) (by omega), Int.toNat_natCast]
  · rw [if_neg p, if_neg p, Int.add_zero, List.set_getElem_self]
theorem around_l1 {t : List (List Int)} {n : Nat} (ok : TriOk t (n : Int)) {up : List Int} (S : UF.Stands up (3 * (t.length : Int)) (allG (vp t) t.length 0)) {c : Int} (hc : 0 ≤ c ∧ c < 3 * (t.length : Int)) {i : Nat} (hi : i < t.length) : ∀ (d j k : Nat), j + d = 3 → 100 + d < k →
    impl_around.l1 k t up c (stO t n c (3 * i + j)) (i : Int) (j : Int) = impl_around.l0 (k - d - 1) t up c (stO t n c (3 * i + 3)) ((i + 1 : Nat) : Int) := by
  have h3 := ok.three hi
  have hs := ok.short
  have n9 := ok.n9
  have hl : ((rd_L1 t (i : Int)).length : Int) = 3 := by rw [rdL_nat t i hi, h3]; rfl
  have hlen := S.len
  intro d
  induction d with
  | zero =>
    intro j k hj hk
    obtain ⟨k, rfl⟩ : ∃ m, k = m + 1 := ⟨k - 1, by omega⟩
    simp only [impl_around.l1]
    rw [hl, if_neg (by omega), w_n (m := i + 1) (by omega) (by omega), show 3 * i + j = 3 * i + 3 by omega]
    rfl
  | succ d ih =>
    intro j k hj hk
    obtain ⟨k, rfl⟩ : ∃ m, k = m + 1 := ⟨k - 1, by omega⟩
    have hs1 := sideOf_in ok hi j
    have ihh := ih (j + 1) k (by omega) (by omega)
    have hk' : k + 1 - (d + 1) - 1 = k - d - 1 := by omega
    have x1 : (j : Int) < 3 := by omega
    have x2 : (0 : Int) ≤ (j : Int) := by omega
    have x3 : j < 3 := by omega
    have cb1 := cor_bd hi j
    have cb2 := cor_bd hi (j + 1)
    have f1 := top_f S.ok cb1.1 (m := k) (by omega) (by omega)
    have f2 := top_f S.ok cb2.1 (m := k) (by omega) (by omega)
    have f3 := top_f S.ok hc.1 (m := k) (by omega) (by omega)
    have v1 := vind_if (t := t) (c := c) (d := cor i j) (P := UF.rt up (cor i j) = UF.rt up c) (S.same_iff cb1 hc)
    have v2 := vind_if (t := t) (c := c) (d := cor i (j + 1)) (P := UF.rt up (cor i (j + 1)) = UF.rt up c) (S.same_iff cb2 hc)
    simp only [impl_around.l1]
    rw [hl, if_pos x1, if_pos x2, rd_at ok hi x3, hk']
    by_cases neg : sideOf t i j < 0
    · have e : stO t n c (3 * i + j) = stO t n c (3 * i + (j + 1)) := by
        unfold stO
        apply List.map_congr_left
        intro q hq
        have hq' := List.mem_range.1 hq
        have hne : posE t ((q : Int) + 1) ≠ 3 * i + j := fun e => by
          have := (posE_at ok hi x3 (q := (q : Int) + 1) (by omega) (by omega)).1 e
          omega
        by_cases h : posE t ((q : Int) + 1) < 3 * i + j
        · rw [if_pos h, if_pos (by omega)]
        · rw [if_neg h, if_neg (by omega)]
      rw [if_pos neg, show wrap64 ((j : Int) + 1) = ((j + 1 : Nat) : Int) from w_n (by omega) (by omega), e]
      exact ihh
    · obtain ⟨z, hz⟩ : ∃ z : Nat, sideOf t i j = (z : Int) + 1 := ⟨(sideOf t i j - 1).toNat, by omega⟩
      have hzn : z < n := by omega
      have hpos : posE t ((z : Int) + 1) = 3 * i + j := (posE_at ok hi x3 (by omega) (by omega)).2 hz
      have hzl : z < (stO t n c (3 * i + j)).length := by rw [stO_len]; exact hzn
      have g0 : (stO t n c (3 * i + j))[z] = 0 := by
        rw [stO_at, hpos, if_neg (by omega)]
      have bb : ∀ (P : Prop) [Decidable P], (0 : Int) ≤ (if P then 1 else 0) ∧ (if P then 1 else 0 : Int) ≤ 1 := fun P _ => by split <;> omega
      have b1 := bb (UF.rt up (cor i j) = UF.rt up c)
      have I1 := inc1_some (P := UF.rt up (cor i j) = UF.rt up c) hzl (by omega) (by omega)
      rw [g0, Int.zero_add] at I1
      have hzl2 : z < ((stO t n c (3 * i + j)).set z (if UF.rt up (cor i j) = UF.rt up c then 1 else 0)).length := by rw [List.length_set]; exact hzl
      have I2 := inc1_some (P := UF.rt up (cor i (j + 1)) = UF.rt up c) hzl2 (by rw [List.getElem_set_self]; omega) (by rw [List.getElem_set_self]; omega)
      rw [List.getElem_set_self, List.set_set] at I2
      have hv : valE t c ((z : Int) + 1) = (if UF.rt up (cor i j) = UF.rt up c then 1 else 0) + (if UF.rt up (cor i (j + 1)) = UF.rt up c then 1 else 0) := by
        unfold valE
        rw [← hz, side_at ok hi x3]
        dsimp only
        rw [Int.toNat_natCast, Int.toNat_natCast, v1, v2]
      have e : (stO t n c (3 * i + j)).set z ((if UF.rt up (cor i j) = UF.rt up c then 1 else 0) + (if UF.rt up (cor i (j + 1)) = UF.rt up c then 1 else 0)) = stO t n c (3 * i + (j + 1)) := by
        rw [← hv]
        apply List.ext_getElem
        · rw [List.length_set, stO_len, stO_len]
        · intro q hq1 hq2
          have hq3 := hq2
          rw [stO_len] at hq3
          by_cases hq : q = z
          · subst hq
            rw [List.getElem_set_self]
            rw [stO_at, hpos, if_pos (by omega)]
          · rw [List.getElem_set_ne (by omega)]
            rw [stO_at, stO_at]
            have hne : posE t ((q : Int) + 1) ≠ 3 * i + j := fun e => by
              have := (posE_at ok hi x3 (q := (q : Int) + 1) (by omega) (by omega)).1 e
              omega
            by_cases h : posE t ((q : Int) + 1) < 3 * i + j
            · rw [if_pos h, if_pos (by omega)]
            · rw [if_neg h, if_neg (by omega)]
      rw [if_neg neg, show wrap64 ((j : Int) + 1) = ((j + 1 : Nat) : Int) from w_n (by omega) (by omega), tmod3, show wrap64 (3 * (i : Int)) = ((3 * i : Nat) : Int) from w_n (by omega) (by omega),
        show wrap64 (((3 * i : Nat) : Int) + (j : Int)) = cor i j from by rw [w_n (m := 3 * i + j) (by omega) (by omega)]; unfold cor; omega,
        show wrap64 (((3 * i : Nat) : Int) + ((((j + 1) % 3 : Nat)) : Int)) = cor i (j + 1) from by rw [w_n (m := 3 * i + (j + 1) % 3) (by omega) (by omega)]; unfold cor; omega,
        f1, Option.bind_some, f3, Option.bind_some, hz, show wrap64 ((z : Int) + 1 - 1) = (z : Int) from w_n (by omega) (by omega), I1, Option.bind_some, f2, Option.bind_some, Option.bind_some, I2, Option.bind_some, e]
      exact ihh
theorem around_l0 {t : List (List Int)} {n : Nat} (ok : TriOk t (n : Int)) {up : List Int} (S : UF.Stands up (3 * (t.length : Int)) (allG (vp t) t.length 0)) {c : Int} (hc : 0 ≤ c ∧ c < 3 * (t.length : Int)) : ∀ (d i k : Nat), i + d = t.length → 200 + 5 * d < k →
    impl_around.l0 k t up c (stO t n c (3 * i)) (i : Int) = some (stO t n c (3 * t.length)) := by
  intro d
  induction d with
  | zero =>
    intro i k hi hk
    obtain ⟨k, rfl⟩ : ∃ m, k = m + 1 := ⟨k - 1, by omega⟩
    simp only [impl_around.l0]
    rw [if_neg (by omega), show i = t.length by omega]
  | succ d ih =>
    intro i k hi hk
    obtain ⟨k, rfl⟩ : ∃ m, k = m + 1 := ⟨k - 1, by omega⟩
    have e1 := around_l1 ok S hc (i := i) (by omega) 3 0 k (by omega) (by omega)
    have e2 := ih (i + 1) (k - 3 - 1) (by omega) (by omega)
    simp only [impl_around.l0]
    rw [if_pos (by omega), if_pos (by omega)]
    have e1' : impl_around.l1 k t up c (stO t n c (3 * i)) (i : Int) 0 = impl_around.l0 (k - 3 - 1) t up c (stO t n c (3 * i + 3)) ((i + 1 : Nat) : Int) := e1
    rw [e1', show 3 * i + 3 = 3 * (i + 1) by omega, e2]
theorem impl_around_f {t : List (List Int)} {n : Nat} (ok : TriOk t (n : Int)) (ht : t.length ≤ 1048576) (hr : ∀ r ∈ t, r.length ≤ 1048576) {c : Int} (hc : 0 ≤ c ∧ c < 3 * (t.length : Int)) (k : Nat) (hk : 3000300 < k) : impl_around.f k t c = some (aroundR t n c) := by
  obtain ⟨up, e, S⟩ := vert_f ok ht hr k hk
  have hs := ok.short
  have hl := ok.len
  have hE : wrap64 (Int.tdiv (wrap64 (3 * (t.length : Int))) 2) = (n : Int) := by
    rw [show wrap64 (3 * (t.length : Int)) = ((3 * t.length : Nat) : Int) from w_n (by omega) (by omega), Int.tdiv_eq_ediv_of_nonneg (by omega), w_n (m := n) (by omega) (by omega)]
  unfold impl_around.f
  rw [e, Option.bind_some, hE, if_pos (by omega), if_pos (by omega), Int.toNat_natCast]
  have h0 : List.replicate n (0 : Int) = stO t n c (3 * 0) := by
    unfold stO
    apply List.ext_getElem
    · simp
    · intro q h1 h2
      simp
  have h1 : stO t n c (3 * t.length) = aroundR t n c := by
    unfold stO aroundR
    apply List.map_congr_left
    intro q hq
    have hq' := List.mem_range.1 hq
    obtain ⟨o, a, ho, ha, s1, s2⟩ := ok.side (x := (q : Int) + 1) (by omega) (by omega) (by omega)
    rw [if_pos (by unfold posE; rw [s1]; dsimp only; omega)]
  rw [h0, ← h1]
  exact around_l0 ok S hc t.length 0 k (by omega) (by omega)
theorem spec_around_l0 {t : List (List Int)} {n : Nat} (ok : TriOk t (n : Int)) {u2 : List Int} (S : UF.Stands u2 (3 * (t.length : Int) + 2) (allG (ep t) t.length 0)) {i j : Nat} (hi : i < t.length) (hj : j < 3) : ∀ (d q k : Nat), q + d = n → 100 + d < k →
    spec_l15Around.l0 k t u2 (UF.rt u2 (En (sideOf t i j))) ((List.range q).map fun (q : Nat) => valE t (cor i (j + 1)) ((q : Int) + 1)) ((q : Int) + 1) = some (aroundR t n (cor i (j + 1))) := by
  have hs := ok.short
  have hl := ok.len
  have n9 := ok.n9
  have hn := S.len
  have hE : wrap64 (Int.tdiv (wrap64 (3 * (t.length : Int))) 2) = (n : Int) := by
    rw [show wrap64 (3 * (t.length : Int)) = ((3 * t.length : Nat) : Int) from w_n (by omega) (by omega), Int.tdiv_eq_ediv_of_nonneg (by omega), w_n (m := n) (by omega) (by omega)]
  have epm : ∀ a b : Nat, a < t.length → b < 3 → UF.Cls (3 * (t.length : Int) + 2) (allG (ep t) t.length 0) (En (sideOf t a b)) (fm t (cor a (b + 1))) := by
    intro a b ha hb
    rw [fm_cor]
    exact .pair ((mem_allG _ _).2 ⟨a, by omega, by omega, b, hb, by simp [ep]⟩) (En_bd ok ha b).1 (En_bd ok ha b).2 (Bg_bd ok ha (b + 1)).1 (Bg_bd ok ha (b + 1)).2
  intro d
  induction d with
  | zero =>
    intro q k hq hk
    obtain ⟨k, rfl⟩ : ∃ m, k = m + 1 := ⟨k - 1, by omega⟩
    simp only [spec_l15Around.l0]
    rw [hE, if_neg (by omega), show q = n by omega]
    rfl
  | succ d ih =>
    intro q k hq hk
    obtain ⟨k, rfl⟩ : ∃ m, k = m + 1 := ⟨k - 1, by omega⟩
    obtain ⟨o, a, ho, ha, s1, s2⟩ := ok.side (x := (q : Int) + 1) (by omega) (by omega) (by omega)
    have eB : Bg ((q : Int) + 1) = 2 * ((q : Int) + 1) := by unfold Bg; rw [if_neg (by omega)]; omega
    have eE : En ((q : Int) + 1) = 2 * ((q : Int) + 1) + 1 := by unfold En; rw [if_pos (by omega)]; omega
    have bB := Bg_bd ok ho a
    have bE := En_bd ok ho a
    have bv := En_bd ok hi j
    rw [s2, eB] at bB
    rw [s2, eE] at bE
    have f1 := find3_f S.ok bB.1 (m := k) (by omega) (by omega)
    have f2 := find3_f S.ok bE.1 (m := k) (by omega) (by omega)
    have c1 : UF.rt u2 (2 * ((q : Int) + 1)) = UF.rt u2 (En (sideOf t i j)) ↔ SameV t (cor o a) (cor i (j + 1)) := by
      rw [S.same_iff bB bv]
      unfold SameV
      rw [cls_fm ok (cor_bd ho a) (cor_bd hi (j + 1)), show fm t (cor o a) = 2 * ((q : Int) + 1) from by rw [fm_cor, s2, eB]]
      exact ⟨fun h => h.trans (epm i j hi hj), fun h => h.trans (epm i j hi hj).symm⟩
    have c2 : UF.rt u2 (2 * ((q : Int) + 1) + 1) = UF.rt u2 (En (sideOf t i j)) ↔ SameV t (cor o (a + 1)) (cor i (j + 1)) := by
      rw [S.same_iff bE bv]
      unfold SameV
      rw [cls_fm ok (cor_bd ho (a + 1)) (cor_bd hi (j + 1))]
      have e0 := epm o a ho ha
      rw [s2, eE] at e0
      exact ⟨fun h => e0.symm.trans (h.trans (epm i j hi hj)), fun h => e0.trans (h.trans (epm i j hi hj).symm)⟩
    have d1 := vind_if c1
    have d2 := vind_if c2
    have hv : valE t (cor i (j + 1)) ((q : Int) + 1) = (if UF.rt u2 (2 * ((q : Int) + 1)) = UF.rt u2 (En (sideOf t i j)) then 1 else 0) + (if UF.rt u2 (2 * ((q : Int) + 1) + 1) = UF.rt u2 (En (sideOf t i j)) then 1 else 0) := by
      unfold valE
      rw [s1]
      dsimp only
      rw [Int.toNat_natCast, Int.toNat_natCast, d1, d2]
    have vb := valE_bd t (cor i (j + 1)) ((q : Int) + 1)
    have hw : wrap64 ((if UF.rt u2 (2 * ((q : Int) + 1)) = UF.rt u2 (En (sideOf t i j)) then 1 else 0) + (if UF.rt u2 (2 * ((q : Int) + 1) + 1) = UF.rt u2 (En (sideOf t i j)) then 1 else 0)) = valE t (cor i (j + 1)) ((q : Int) + 1) := by
      rw [← hv]
      exact w_id (by omega) (by omega)
    have ihh := ih (q + 1) k (by omega) (by omega)
    have y1 : ((q : Int) + 1) ≤ (n : Int) := by omega
    have y2 : ((List.range q).map fun (q : Nat) => valE t (cor i (j + 1)) ((q : Int) + 1)).length < 17592186044416 := by rw [List.length_map, List.length_range]; omega
    have w1 : wrap64 (2 * ((q : Int) + 1)) = 2 * ((q : Int) + 1) := w_id (by omega) (by omega)
    have w2 : wrap64 (2 * ((q : Int) + 1) + 1) = 2 * ((q : Int) + 1) + 1 := by clear w1 hw; exact w_id (by omega) (by omega)
    have w3 : wrap64 ((q : Int) + 1 + 1) = ((q + 1 : Nat) : Int) + 1 := by clear w1 w2 hw; rw [w_id (by omega) (by omega)]; omega
    simp only [spec_l15Around.l0]
    rw [hE, if_pos y1, w1, f1, Option.bind_some, bit_eq, Option.bind_some, w2, f2, Option.bind_some, bit_eq, Option.bind_some, if_pos y2]
    simp only [beq_iff_eq]
    rw [hw, w3]
    rw [List.range_succ, List.map_append] at ihh
    exact ihh
theorem spec_around_f {t : List (List Int)} {n : Nat} (ok : TriOk t (n : Int)) {i j : Nat} (hi : i < t.length) (hj : j < 3) (k : Nat) (hk : 1000 < k) : spec_l15Around.f k t (i : Int) (j : Int) = some (aroundR t n (cor i (j + 1))) := by
  obtain ⟨u2, e, S⟩ := ends_f ok k hk
  have hn := S.len
  have h3 := ok.three hi
  have hs := ok.short
  have n9 := ok.n9
  have hl : ((rd_L1 t (i : Int)).length : Int) = 3 := by rw [rdL_nat t i hi, h3]; rfl
  have hs1 := sideOf_in ok hi j
  have bE := En_bd ok hi j
  have f1 := find3_f S.ok bE.1 (m := k) (by omega) (by omega)
  have x1 : (0 : Int) ≤ (i : Int) := by omega
  have x2 : (i : Int) < (t.length : Int) := by omega
  have x3 : (0 : Int) ≤ (j : Int) := by omega
  have x4 : (j : Int) < 3 := by omega
  have y1 := l3Abs_eq (a := sideOf t i j) (by omega) (by omega)
  have v1 : wrap64 (wrap64 (2 * ((sideOf t i j).natAbs : Int)) + (if decide (sideOf t i j > 0) = true then 1 else 0)) = En (sideOf t i j) := by
    rw [w_id (a := 2 * ((sideOf t i j).natAbs : Int)) (by omega) (by omega)]
    unfold En
    by_cases c : sideOf t i j > 0
    · rw [if_pos (decide_eq_true c), if_pos c, w_id (by omega) (by omega)]
    · rw [if_neg (by simpa using c), if_neg c, w_id (by omega) (by omega)]
  have fin := spec_around_l0 ok S hi hj n 0 k (by omega) (by omega)
  unfold spec_l15Around.f
  rw [e, Option.bind_some, if_pos x1, if_pos x2, hl, if_pos x3, if_pos x4, rd_at ok hi hj, y1, Option.bind_some, bit_eq, Option.bind_some, v1, f1, Option.bind_some]
  exact fin
end Go.Proofs.Ytolmicnapemljaa.L

namespace Go.Proofs.Ytolmicnapemljaa.L
open Go.RowKit Go.Proofs.Ytolmicnapemljaa.P Go.Proofs.Ytolmicnapemljaa.Help Go.Proofs.YtolmicnapemljaaW.PrintWords
set_option linter.unusedVariables false
set_option linter.unusedSimpArgs false

noncomputable def vertR (t : List (List Int)) (i j : Int) : List Int × Bool := if isT t = true ∧ (0 ≤ i ∧ i ≤ t.length - 1) ∧ (0 ≤ j ∧ j ≤ 2) then (aroundR t (edges t).toNat (cor i.toNat (j.toNat + 1)), true) else ([], false)
theorem isT_okn {t : List (List Int)} (ht : t.length ≤ 1048576) (h : isT t = true) : TriOk t ((edges t).toNat : Int) := by
  have ok := isT_ok ht h
  have := ok.n3
  rw [show ((edges t).toNat : Int) = edges t by omega]
  exact ok
theorem aroundR_len (t : List (List Int)) (n : Nat) (c : Int) : (aroundR t n c).length = n := by simp [aroundR]
theorem spec_vert (t : List (List Int)) (ht : t.length ≤ 1048576) (i j : Int) (k : Nat) (hk : 6000001 < k) : spec_VertexCurve.f k t i j = some (vertR t i j) := by
  unfold spec_VertexCurve.f vertR
  rw [spec_isT t ht k (by omega), Option.bind_some]
  by_cases h : isT t = true
  · have ok := isT_okn ht h
    rw [if_pos h, l1In_eq, Option.bind_some, w_id (by omega) (by omega)]
    by_cases h2 : 0 ≤ i ∧ i ≤ t.length - 1
    · rw [if_pos (by simpa using h2), l1In_eq, Option.bind_some]
      by_cases h3 : 0 ≤ j ∧ j ≤ 2
      · obtain ⟨p, rfl⟩ : ∃ p : Nat, i = p := ⟨i.toNat, by omega⟩
        obtain ⟨q, rfl⟩ : ∃ q : Nat, j = q := ⟨j.toNat, by omega⟩
        rw [if_pos (by simpa using h3), spec_around_f ok (i := p) (j := q) (by omega) (by omega) k (by omega), Option.bind_some, if_pos ⟨h, h2, h3⟩, Int.toNat_natCast, Int.toNat_natCast]
      · rw [if_neg (by simpa using h3), if_neg (fun h => h3 h.2.2)]
    · rw [if_neg (by simpa using h2), if_neg (fun h => h2 h.2.1)]
  · rw [if_neg h, if_neg (fun h' => h h'.1)]
theorem impl_vert (t : List (List Int)) (ht : t.length ≤ 1048576) (hr : ∀ r ∈ t, r.length ≤ 1048576) (i j : Int) (k : Nat) (hk : 6000001 < k) : impl_VertexCurve.f k t i j = some (vertR t i j) := by
  unfold impl_VertexCurve.f vertR
  rw [impl_isT t ht k (by omega), Option.bind_some]
  by_cases h : isT t = true
  · have ok := isT_okn ht h
    have hs := ok.short
    rw [if_pos h, within_eq, Option.bind_some, w_id (by omega) (by omega)]
    by_cases h2 : 0 ≤ i ∧ i ≤ t.length - 1
    · rw [if_pos (by simpa using h2), within_eq, Option.bind_some]
      by_cases h3 : 0 ≤ j ∧ j ≤ 2
      · obtain ⟨p, rfl⟩ : ∃ p : Nat, i = p := ⟨i.toNat, by omega⟩
        obtain ⟨q, rfl⟩ : ∃ q : Nat, j = q := ⟨j.toNat, by omega⟩
        have hp : p < t.length := by omega
        rw [if_pos (by simpa using h3), show wrap64 ((q : Int) + 1) = ((q + 1 : Nat) : Int) from w_n (by omega) (by omega), tmod3, show wrap64 (3 * (p : Int)) = ((3 * p : Nat) : Int) from w_n (by omega) (by omega),
          show wrap64 (((3 * p : Nat) : Int) + ((((q + 1) % 3 : Nat)) : Int)) = cor p (q + 1) from by rw [w_n (m := 3 * p + (q + 1) % 3) (by omega) (by omega)]; unfold cor; omega,
          impl_around_f ok ht hr (cor_bd hp (q + 1)) k (by omega), Option.bind_some, if_pos ⟨h, h2, h3⟩, Int.toNat_natCast, Int.toNat_natCast]
      · rw [if_neg (by simpa using h3), if_neg (fun h => h3 h.2.2)]
    · rw [if_neg (by simpa using h2), if_neg (fun h => h2 h.2.1)]
  · rw [if_neg h, if_neg (fun h' => h h'.1)]
theorem vertR_len (t : List (List Int)) (ht : t.length ≤ 1048576) (i j : Int) : (vertR t i j).1.length ≤ 100 := by
  unfold vertR
  split
  · rename_i h
    have := (isT_ok ht h.1).n9
    show (aroundR _ _ _).length ≤ _
    rw [aroundR_len]
    omega
  · simp
end Go.Proofs.Ytolmicnapemljaa.L

namespace Go.Proofs.Ytolmicnapemljaa.L
open Go.RowKit Go.Proofs.Ytolmicnapemljaa.P Go.Proofs.Ytolmicnapemljaa.Help Go.Proofs.YtolmicnapemljaaW.PrintWords
set_option linter.unusedVariables false
set_option linter.unusedSimpArgs false

/-- n numbers from j on. -/
def markL : Nat → Int → List Int
  | 0, _ => []
  | n + 1, j => j :: markL n (j + 1)
theorem markL_len : ∀ (n : Nat) (j : Int), (markL n j).length = n
  | 0, _ => rfl
  | n + 1, j => by rw [markL, List.length_cons, markL_len n (j + 1)]
theorem markIntS_l0 : ∀ (d k i : Nat) (xs : List Int) (j : Int), i + d = xs.length → d < k → xs.length ≤ 1000000000000 → 0 ≤ j → j + d ≤ 4000000000000000 →
    laws_markIntS.l0 k xs j (i : Int) = some (j + d, xs.take i ++ markL d j) := by
  intro d
  induction d with
  | zero =>
    intro k i xs j hi hk hx hj0 hj
    obtain ⟨k, rfl⟩ : ∃ m, k = m + 1 := ⟨k - 1, by omega⟩
    simp only [laws_markIntS.l0]
    rw [if_neg (by omega), List.take_of_length_le (by omega)]
    simp [markL]
  | succ d ih =>
    intro k i xs j hi hk hx hj0 hj
    obtain ⟨k, rfl⟩ : ∃ m, k = m + 1 := ⟨k - 1, by omega⟩
    simp only [laws_markIntS.l0]
    rw [if_pos (by omega), if_pos (by omega), Int.toNat_natCast, w_id (a := j + 1) (by omega) (by omega), w_id (a := (i : Int) + 1) (by omega) (by omega), show ((i : Int) + 1) = ((i + 1 : Nat) : Int) by omega]
    rw [ih k (i + 1) _ (j + 1) (by rw [List.length_set]; omega) (by omega) (by rw [List.length_set]; omega) (by omega) (by omega)]
    congr 1
    refine Prod.ext ?_ ?_
    · show j + 1 + (d : Int) = j + ((d + 1 : Nat) : Int)
      omega
    · show (xs.set i j).take (i + 1) ++ markL d (j + 1) = xs.take i ++ markL (d + 1) j
      rw [List.take_succ_eq_append_getElem (by rw [List.length_set]; omega), List.getElem_set_self, List.take_set_of_le (by omega), List.append_assoc]
      rfl
theorem heldIntS_l0 : ∀ (d k : Nat) (ys : List Int) (j : Int), d < k → ys.length + d ≤ 1000000000000 → 0 ≤ j → j + d ≤ 4000000000000000 →
    laws_heldIntS.l0 k (ys ++ markL d j) j (ys.length : Int) = some (j + d) := by
  intro d
  induction d with
  | zero =>
    intro k ys j hk hx hj0 hj
    obtain ⟨k, rfl⟩ : ∃ m, k = m + 1 := ⟨k - 1, by omega⟩
    simp only [laws_heldIntS.l0]
    rw [if_neg (by simp [markL])]
    simp
  | succ d ih =>
    intro k ys j hk hx hj0 hj
    obtain ⟨k, rfl⟩ : ∃ m, k = m + 1 := ⟨k - 1, by omega⟩
    have hr : rd (ys ++ markL (d + 1) j) (ys.length : Int) = j := by
      unfold rd
      rw [markL]
      simp [List.getD_eq_getElem?_getD]
    have hl : ((ys ++ markL (d + 1) j).length : Int) = ys.length + d + 1 := by
      rw [List.length_append, markL_len]; omega
    simp only [laws_heldIntS.l0]
    rw [hr, hl, if_pos (by omega), if_pos (by omega)]
    simp only [if_true]
    rw [w_id (a := j + 1) (by omega) (by omega), w_id (a := (ys.length : Int) + 1) (by omega) (by omega)]
    have h := ih k (ys ++ [j]) (j + 1) (by omega) (by simp; omega) (by omega) (by omega)
    rw [List.append_assoc, List.length_append] at h
    simp only [List.singleton_append, List.length_singleton] at h
    rw [markL, show ((ys.length : Int) + 1) = ((ys.length + 1 : Nat) : Int) by omega, h]
    congr 1
    omega
theorem markIntS_f (xs : List Int) (hx : xs.length ≤ 1048576) (j : Int) (hj : 0 ≤ j ∧ j ≤ 100000000) (k : Nat) (hk : 1048576 < k) : laws_markIntS.f k xs j = some (j + xs.length, markL xs.length j) := by
  unfold laws_markIntS.f
  have h := markIntS_l0 xs.length k 0 xs j (by omega) (by omega) (by omega) (by omega) (by omega)
  rw [List.take_zero, List.nil_append] at h
  exact h
theorem heldIntS_f (n : Nat) (hx : n ≤ 1048576) (j : Int) (hj : 0 ≤ j ∧ j ≤ 100000000) (k : Nat) (hk : 1048576 < k) : laws_heldIntS.f k (markL n j) j = some (j + (n : Int)) := by
  unfold laws_heldIntS.f
  have h := heldIntS_l0 n k [] j (by omega) (by simp; omega) (by omega) (by omega)
  simpa using h
end Go.Proofs.Ytolmicnapemljaa.L

namespace Go.Proofs.Ytolmicnapemljaa.L
open Go.RowKit Go.Proofs.Ytolmicnapemljaa.P Go.Proofs.Ytolmicnapemljaa.Help Go.Proofs.YtolmicnapemljaaW.PrintWords
set_option linter.unusedVariables false
set_option linter.unusedSimpArgs false

def markLL : List Nat → Int → List (List Int)
  | [], _ => []
  | n :: ns, j => markL n j :: markLL ns (j + n)
def totN : List Nat → Nat
  | [] => 0
  | n :: ns => n + totN ns
theorem markLL_len : ∀ (ns : List Nat) (j : Int), (markLL ns j).length = ns.length
  | [], _ => rfl
  | n :: ns, j => by rw [markLL, List.length_cons, List.length_cons, markLL_len ns]
theorem tot_map : ∀ (xs : List (List Int)), totN (xs.map List.length) = tot xs
  | [] => rfl
  | r :: rs => by rw [List.map_cons, totN, tot, tot_map rs]
theorem markIntSS_l0 : ∀ (d k i : Nat) (xs : List (List Int)) (j : Int), i + d = xs.length → d + 1048577 < k → xs.length ≤ 1048600 → (∀ r ∈ xs, r.length ≤ 1048576) → 0 ≤ j → j + tot (xs.drop i) ≤ 100000000 →
    laws_markIntSS.l0 k xs j (i : Int) = some (j + tot (xs.drop i), xs.take i ++ markLL ((xs.drop i).map List.length) j) := by
  intro d
  induction d with
  | zero =>
    intro k i xs j hi hk hx hr h0 h1
    obtain ⟨k, rfl⟩ : ∃ m, k = m + 1 := ⟨k - 1, by omega⟩
    simp only [laws_markIntSS.l0]
    rw [if_neg (by omega), List.drop_of_length_le (by omega), List.take_of_length_le (by omega)]
    simp [tot, markLL]
  | succ d ih =>
    intro k i xs j hi hk hx hr h0 h1
    obtain ⟨k, rfl⟩ : ∃ m, k = m + 1 := ⟨k - 1, by omega⟩
    have hlt : i < xs.length := by omega
    have hl := hr _ (List.getElem_mem hlt)
    rw [List.drop_eq_getElem_cons hlt, tot] at h1
    simp only [laws_markIntSS.l0]
    rw [if_pos (by omega), if_pos (by omega), rdL_nat xs i hlt, markIntS_f _ hl j (by omega) k (by omega), Option.bind_some, w_id (by omega) (by omega), show ((i : Int) + 1) = ((i + 1 : Nat) : Int) by omega, Int.toNat_natCast]
    have hd : (xs.set i (markL xs[i].length j)).drop (i + 1) = xs.drop (i + 1) := by rw [List.drop_set_of_lt (by omega)]
    rw [ih k (i + 1) _ _ (by rw [List.length_set]; omega) (by omega) (by rw [List.length_set]; exact hx) (fun r hm => by
      rcases List.mem_or_eq_of_mem_set hm with h | h
      · exact hr r h
      · rw [h, markL_len]; exact hl) (by omega) (by rw [hd]; omega), hd, List.drop_eq_getElem_cons hlt, tot, List.map_cons, markLL, List.take_succ_eq_append_getElem (by rw [List.length_set]; omega), List.getElem_set_self, List.take_set_of_le (by omega), List.append_assoc]
    congr 2
    · omega
theorem markIntSS_f (xs : List (List Int)) (hx : xs.length ≤ 1048600) (hr : ∀ r ∈ xs, r.length ≤ 1048576) (ht : tot xs ≤ 2000000) (k : Nat) (hk : 3000000 < k) : laws_markIntSS.f k xs 1 = some (1 + (tot xs : Int), markLL (xs.map List.length) 1) := by
  unfold laws_markIntSS.f
  have := markIntSS_l0 xs.length k 0 xs 1 (by omega) (by omega) hx hr (by omega) (by rw [List.drop_zero]; omega)
  rw [List.drop_zero, List.take_zero, List.nil_append] at this
  exact this
theorem markLL_drop : ∀ (ns : List Nat) (j : Int) (i : Nat), (markLL ns j).drop i = markLL (ns.drop i) (j + totN (ns.take i))
  | ns, j, 0 => by simp [totN]
  | [], j, i + 1 => by simp [markLL]
  | n :: ns, j, i + 1 => by
    rw [markLL, List.drop_succ_cons, List.drop_succ_cons, List.take_succ_cons, totN, markLL_drop ns (j + n) i]
    congr 1
    omega
theorem heldIntSS_l0 : ∀ (d k i : Nat) (ys : List (List Int)) (ns : List Nat) (j : Int), i + d = ys.length → d + 1048577 < k → ys.length ≤ 1048600 → (∀ n ∈ ns, n ≤ 1048576) → 0 ≤ j → j + totN ns ≤ 100000000 → ys.drop i = markLL ns j →
    laws_heldIntSS.l0 k ys j (i : Int) = some (j + totN ns) := by
  intro d
  induction d with
  | zero =>
    intro k i ys ns j hi hk hx hr h0 h1 he
    obtain ⟨k, rfl⟩ : ∃ m, k = m + 1 := ⟨k - 1, by omega⟩
    simp only [laws_heldIntSS.l0]
    rw [if_neg (by omega)]
    rw [List.drop_of_length_le (by omega)] at he
    cases ns with
    | nil => simp [totN]
    | cons n ns => rw [markLL] at he; exact absurd he (by simp)
  | succ d ih =>
    intro k i ys ns j hi hk hx hr h0 h1 he
    obtain ⟨k, rfl⟩ : ∃ m, k = m + 1 := ⟨k - 1, by omega⟩
    have hlt : i < ys.length := by omega
    rw [List.drop_eq_getElem_cons hlt] at he
    cases ns with
    | nil => exact absurd he (List.cons_ne_nil _ _)
    | cons n ns =>
      rw [markLL] at he
      injection he with e1 e2
      have hn := hr n List.mem_cons_self
      rw [totN] at h1
      simp only [laws_heldIntSS.l0]
      rw [if_pos (by omega), if_pos (by omega), rdL_nat ys i hlt, e1, heldIntS_f n hn j (by omega) k (by omega), Option.bind_some, if_neg (by omega), w_id (by omega) (by omega), show ((i : Int) + 1) = ((i + 1 : Nat) : Int) by omega, ih k (i + 1) ys ns (j + n) (by omega) (by omega) hx (fun m hm => hr m (List.mem_cons_of_mem _ hm)) (by omega) (by omega) e2, totN]
      congr 1
      omega
theorem heldIntSS_f (xs : List (List Int)) (hx : xs.length ≤ 1048600) (hr : ∀ r ∈ xs, r.length ≤ 1048576) (ht : tot xs ≤ 2000000) (k : Nat) (hk : 3000000 < k) : laws_heldIntSS.f k (markLL (xs.map List.length) 1) 1 = some (1 + (tot xs : Int)) := by
  unfold laws_heldIntSS.f
  have := heldIntSS_l0 xs.length k 0 (markLL (xs.map List.length) 1) (xs.map List.length) 1 (by rw [markLL_len, List.length_map]; omega) (by omega) (by rw [markLL_len, List.length_map]; exact hx) (fun n hn => by
    obtain ⟨r, hm, rfl⟩ := List.mem_map.1 hn
    exact hr r hm) (by omega) (by rw [tot_map]; omega) (by rw [List.drop_zero])
  rw [tot_map] at this
  exact this
end Go.Proofs.Ytolmicnapemljaa.L

namespace Go.Proofs.Ytolmicnapemljaa.Pure
open Go.RowKit Go.Proofs.Ytolmicnapemljaa.P Go.Proofs.Ytolmicnapemljaa.Help Go.Proofs.Ytolmicnapemljaa.L
theorem FnExactVertexCurve : ∀ (l0 : List (List Int)) (a1 : Int) (a2 : Int), l0.length ≤ 9223372036854775807 → (∀ r ∈ l0, r.length ≤ 9223372036854775807) → (∀ r ∈ l0, ∀ x ∈ r, I64 x) → I64 a1 → I64 a2 → ∃ k, laws_FnExactVertexCurve.f k l0 a1 a2 = some true := by
  intro t i j h1 h2 _ _ _
  refine ⟨10000000, ?_⟩
  unfold laws_FnExactVertexCurve.f
  obtain ⟨z, hz, hb⟩ := szIntSS_f t h1 h2 1048576 (by decide) (by decide) 10000000 (by decide)
  rw [hz, Option.bind_some]
  by_cases h : z < 0
  · rw [if_pos h]
  · obtain ⟨b1, b2, b3⟩ := hb (by omega)
    obtain ⟨⟨o, b⟩, hp⟩ : ∃ p, vertR t i j = p := ⟨_, rfl⟩
    have o1 := vertR_len t b1 i j
    rw [hp] at o1
    dsimp only at o1
    have e0 := toIntSS_f t b1 b2 10000000 (by decide)
    have e1 := eqIntS_self o (by omega) 10000000 (by decide)
    have e2 := markIntS_f o (by omega) 1 (by decide) 10000000 (by decide)
    have e3 := heldIntS_f o.length (by omega) 1 (by decide) 10000000 (by decide)
    have e4 := eqIntSS_self t b1 b2 10000000 (by decide)
    have e5 := markIntSS_f t (by omega) b2 (by omega) 10000000 (by decide)
    have n : ¬ (1 + (o.length : Int) < 0) := by omega
    have n2 : ¬ (1 + (tot t : Int) < 0) := by omega
    have f1 := spec_vert t b1 i j 10000000 (by decide)
    have f2 := impl_vert t b1 b2 i j 10000000 (by decide)
    rw [hp] at f1 f2
    rw [if_neg h]
    simp only [Option.bind_some, e0, e1, e2, e3, e4, e5, f1, f2, if_true, if_neg n, if_neg n2]
end Go.Proofs.Ytolmicnapemljaa.Pure
