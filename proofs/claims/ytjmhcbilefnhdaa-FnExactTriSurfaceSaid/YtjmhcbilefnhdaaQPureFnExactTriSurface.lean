/- The program's TriSurface answers as the reference's, for all arguments; no condition. -/
import Derived.Test.YtjmhcbilefnhdaaQPx0
import Derived.Test.YtjmhcbilefnhdaaQHelp
import Derived.Test.YtjmhcbilefnhdaaQPx3
import Derived.Test.YtjmhcbilefnhdaaQPx9
import Derived.Test.YtjmhcbilefnhdaaQPx1
import Derived.Test.YtjmhcbilefnhdaaQPx7
import Derived.Test.YtjmhcbilefnhdaaQPx6
import Derived.Test.YtjmhcbilefnhdaaQPx12
import Derived.Test.YtjmhcbilefnhdaaQPx2
import Derived.Test.YtjmhcbilefnhdaaQPx8
import Derived.Test.YtjmhcbilefnhdaaQPx10
import Derived.Test.YtjmhcbilefnhdaaQPx5
import Derived.Test.YtjmhcbilefnhdaaQPx4
import Derived.Test.YtjmhcbilefnhdaaQPx11
import Derived.Test.YtjmhcbilefnhdaaQPx13
namespace Go.Proofs.Ytjmhcbilefnhdaa.UF
set_option linter.unusedVariables false

/-- The number that a number points to. -/
def P (up : List Int) (i : Int) : Int := up.getD i.toNat 0
/-- The way from i ends at r. -/
inductive Root (up : List Int) : Int → Int → Prop
  | here {r : Int} (h : P up r = r) : Root up r r
  | step {i r : Int} (h : P up i ≠ i) (k : Root up (P up i) r) : Root up i r
theorem Root.root {up : List Int} {i r : Int} (h : Root up i r) : P up r = r := by
  induction h with
  | here h => exact h
  | step _ _ ih => exact ih
theorem Root.uniq {up : List Int} {i r : Int} (h : Root up i r) : ∀ {s : Int}, Root up i s → r = s := by
  induction h with
  | here h =>
    intro s hs
    cases hs with
    | here _ => rfl
    | step h2 _ => exact absurd h h2
  | step h k ih =>
    intro s hs
    cases hs with
    | here h2 => exact absurd h2 h
    | step _ k2 => exact ih k2
/-- A forest: every number points to a number, every way ends. -/
def Ok (up : List Int) : Prop := ∀ i : Int, 0 ≤ i → i < up.length → (0 ≤ P up i ∧ P up i < up.length) ∧ ∃ r, Root up i r
theorem Ok.bd {up : List Int} (h : Ok up) {i r : Int} (hr : Root up i r) : 0 ≤ i → i < up.length → 0 ≤ r ∧ r < up.length := by
  induction hr with
  | here _ => exact fun h0 h1 => ⟨h0, h1⟩
  | step _ _ ih => exact fun h0 h1 => ih (h _ h0 h1).1.1 (h _ h0 h1).1.2
theorem P_set {up : List Int} {a b i : Int} (ha : 0 ≤ a) (ha1 : a < up.length) (hi : 0 ≤ i) : P (up.set a.toNat b) i = if i = a then b else P up i := by
  unfold P
  by_cases h : i = a
  · subst h
    rw [if_pos rfl, List.getD_eq_getElem?_getD, List.getElem?_set_self (by omega)]
    rfl
  · rw [if_neg h, List.getD_eq_getElem?_getD, List.getD_eq_getElem?_getD, List.getElem?_set_ne (by omega)]
theorem set_other {up : List Int} (hok : Ok up) {ra rb : Int} (ha : 0 ≤ ra ∧ ra < up.length) (hra : P up ra = ra) {i r : Int} (h : Root up i r) : 0 ≤ i → i < up.length → r ≠ ra → Root (up.set ra.toNat rb) i r := by
  induction h with
  | here h =>
    intro h0 h1 hne
    exact .here (by rw [P_set ha.1 ha.2 h0, if_neg hne]; exact h)
  | @step i r h k ih =>
    intro h0 h1 hne
    have hi : i ≠ ra := fun e => h (by rw [e]; exact hra)
    have hp : P (up.set ra.toNat rb) i = P up i := by rw [P_set ha.1 ha.2 h0, if_neg hi]
    exact .step (by rw [hp]; exact h) (by rw [hp]; exact ih (hok i h0 h1).1.1 (hok i h0 h1).1.2 hne)
theorem set_same {up : List Int} (hok : Ok up) {ra rb : Int} (ha : 0 ≤ ra ∧ ra < up.length) (hb : 0 ≤ rb ∧ rb < up.length) (hra : P up ra = ra) (hrb : P up rb = rb) {i r : Int} (h : Root up i r) : 0 ≤ i → i < up.length → r = ra → Root (up.set ra.toNat rb) i rb := by
  induction h with
  | @here r h =>
    intro h0 h1 e
    subst e
    by_cases hab : r = rb
    · subst hab
      exact .here (by rw [P_set ha.1 ha.2 h0, if_pos rfl])
    · have hp : P (up.set r.toNat rb) r = rb := by rw [P_set ha.1 ha.2 h0, if_pos rfl]
      refine .step (by rw [hp]; exact fun e => hab e.symm) ?_
      rw [hp]
      exact set_other hok ha hra (.here hrb) hb.1 hb.2 (fun e => hab e.symm)
  | @step i r h k ih =>
    intro h0 h1 e
    have hi : i ≠ ra := fun e => h (by rw [e]; exact hra)
    have hp : P (up.set ra.toNat rb) i = P up i := by rw [P_set ha.1 ha.2 h0, if_neg hi]
    exact .step (by rw [hp]; exact h) (by rw [hp]; exact ih (hok i h0 h1).1.1 (hok i h0 h1).1.2 e)
theorem Ok.set {up : List Int} (hok : Ok up) {ra rb : Int} (ha : 0 ≤ ra ∧ ra < up.length) (hb : 0 ≤ rb ∧ rb < up.length) (hra : P up ra = ra) (hrb : P up rb = rb) : Ok (up.set ra.toNat rb) := by
  intro i h0 h1
  rw [List.length_set] at h1
  refine ⟨?_, ?_⟩
  · rw [P_set ha.1 ha.2 h0, List.length_set]
    split
    · exact hb
    · exact (hok i h0 h1).1
  · obtain ⟨r, hr⟩ := (hok i h0 h1).2
    by_cases e : r = ra
    · exact ⟨rb, set_same hok ha hb hra hrb hr h0 h1 e⟩
    · exact ⟨r, set_other hok ha hra hr h0 h1 e⟩
/-- Two numbers of one class. -/
def Same (up : List Int) (i j : Int) : Prop := ∃ r, Root up i r ∧ Root up j r
/-- Being of one class, as pairs make it, among the numbers below n. -/
inductive Cls (n : Int) (ps : List (Int × Int)) : Int → Int → Prop
  | refl {i : Int} (h0 : 0 ≤ i) (h1 : i < n) : Cls n ps i i
  | pair {i j : Int} (h : (i, j) ∈ ps) (h0 : 0 ≤ i) (h1 : i < n) (h2 : 0 ≤ j) (h3 : j < n) : Cls n ps i j
  | symm {i j : Int} (h : Cls n ps i j) : Cls n ps j i
  | trans {i j k : Int} (h : Cls n ps i j) (h2 : Cls n ps j k) : Cls n ps i k
theorem Cls.bd {n : Int} {ps : List (Int × Int)} {i j : Int} (h : Cls n ps i j) : (0 ≤ i ∧ i < n) ∧ (0 ≤ j ∧ j < n) := by
  induction h with
  | refl h0 h1 => exact ⟨⟨h0, h1⟩, h0, h1⟩
  | pair _ h0 h1 h2 h3 => exact ⟨⟨h0, h1⟩, h2, h3⟩
  | symm _ ih => exact ⟨ih.2, ih.1⟩
  | trans _ _ ih1 ih2 => exact ⟨ih1.1, ih2.2⟩
theorem Cls.mono {n : Int} {ps qs : List (Int × Int)} (hs : ∀ p, p ∈ ps → p ∈ qs) {i j : Int} (h : Cls n ps i j) : Cls n qs i j := by
  induction h with
  | refl h0 h1 => exact .refl h0 h1
  | pair h h0 h1 h2 h3 => exact .pair (hs _ h) h0 h1 h2 h3
  | symm _ ih => exact .symm ih
  | trans _ _ ih1 ih2 => exact .trans ih1 ih2
/-- The forest that stands for pairs. -/
structure Stands (up : List Int) (n : Int) (ps : List (Int × Int)) : Prop where
  ok : Ok up
  len : (up.length : Int) = n
  cls : ∀ i j, Cls n ps i j ↔ (0 ≤ i ∧ i < n) ∧ (0 ≤ j ∧ j < n) ∧ Same up i j
theorem Stands.join {up : List Int} {n : Int} {ps : List (Int × Int)} (h : Stands up n ps) {a b ra rb : Int} (ha : 0 ≤ a ∧ a < n) (hb : 0 ≤ b ∧ b < n) (hra : Root up a ra) (hrb : Root up b rb) :
    Stands (up.set ra.toNat rb) n (ps ++ [(a, b)]) ∧ Stands (up.set rb.toNat ra) n (ps ++ [(a, b)]) := by
  have hl := h.len
  have gen : ∀ (x y rx ry : Int), 0 ≤ x ∧ x < n → 0 ≤ y ∧ y < n → Root up x rx → Root up y ry → (∀ i j, Cls n (ps ++ [(a, b)]) i j ↔ Cls n (ps ++ [(x, y)]) i j) → Stands (up.set rx.toNat ry) n (ps ++ [(a, b)]) := by
    intro x y rx ry hx hy hrx hry heq
    have bx := h.ok.bd hrx hx.1 (by omega)
    have by' := h.ok.bd hry hy.1 (by omega)
    have hok := h.ok.set bx by' hrx.root hry.root
    refine ⟨hok, by rw [List.length_set]; exact hl, fun i j => ?_⟩
    rw [heq]
    constructor
    · intro hc
      refine ⟨hc.bd.1, hc.bd.2, ?_⟩
      induction hc with
      | @refl i h0 h1 =>
        obtain ⟨r, hr⟩ := (hok i h0 (by rw [List.length_set]; omega)).2
        exact ⟨r, hr, hr⟩
      | @pair i j hp h0 h1 h2 h3 =>
        rcases List.mem_append.1 hp with hp | hp
        · obtain ⟨r, r1, r2⟩ := ((h.cls i j).1 (.pair hp h0 h1 h2 h3)).2.2
          by_cases e : r = rx
          · exact ⟨ry, set_same h.ok bx by' hrx.root hry.root r1 h0 (by omega) e, set_same h.ok bx by' hrx.root hry.root r2 h2 (by omega) e⟩
          · exact ⟨r, set_other h.ok bx hrx.root r1 h0 (by omega) e, set_other h.ok bx hrx.root r2 h2 (by omega) e⟩
        · have : (i, j) = (x, y) := by simpa using hp
          obtain ⟨rfl, rfl⟩ := Prod.mk.inj this
          refine ⟨ry, set_same h.ok bx by' hrx.root hry.root hrx h0 (by omega) rfl, ?_⟩
          by_cases e : ry = rx
          · exact set_same h.ok bx by' hrx.root hry.root hry h2 (by omega) e
          · exact set_other h.ok bx hrx.root hry h2 (by omega) e
      | symm _ ih => obtain ⟨r, r1, r2⟩ := ih; exact ⟨r, r2, r1⟩
      | trans _ _ ih1 ih2 =>
        obtain ⟨r, r1, r2⟩ := ih1
        obtain ⟨s, s1, s2⟩ := ih2
        obtain rfl := r2.uniq s1
        exact ⟨r, r1, s2⟩
    · rintro ⟨hi, hj, s, s1, s2⟩
      have old : ∀ i, 0 ≤ i ∧ i < n → Root (up.set rx.toNat ry) i s → ∃ r, Root up i r ∧ (r = rx ∧ s = ry ∨ r ≠ rx ∧ s = r) := by
        intro i hi hs
        obtain ⟨r, hr⟩ := (h.ok i hi.1 (by omega)).2
        refine ⟨r, hr, ?_⟩
        by_cases e : r = rx
        · exact .inl ⟨e, hs.uniq (set_same h.ok bx by' hrx.root hry.root hr hi.1 (by omega) e)⟩
        · exact .inr ⟨e, hs.uniq (set_other h.ok bx hrx.root hr hi.1 (by omega) e)⟩
      have up' : ∀ {i j}, Cls n ps i j → Cls n (ps ++ [(x, y)]) i j := fun hc => hc.mono (fun p hp => List.mem_append_left _ hp)
      have hxy : Cls n (ps ++ [(x, y)]) x y := .pair (by simp) hx.1 hx.2 hy.1 hy.2
      obtain ⟨r1, q1, c1⟩ := old i hi s1
      obtain ⟨r2, q2, c2⟩ := old j hj s2
      have same : ∀ {u v r}, 0 ≤ u ∧ u < n → 0 ≤ v ∧ v < n → Root up u r → Root up v r → Cls n (ps ++ [(x, y)]) u v := fun hu hv a1 a2 => up' ((h.cls _ _).2 ⟨hu, hv, _, a1, a2⟩)
      rcases c1 with ⟨e1, f1⟩ | ⟨e1, f1⟩
      · subst e1
        rcases c2 with ⟨e2, f2⟩ | ⟨e2, f2⟩
        · subst e2
          exact same hi hj q1 q2
        · have : r2 = ry := by rw [← f2]; exact f1
          subst this
          exact (same hi hx q1 hrx).trans (hxy.trans (same hy hj hry q2))
      · rcases c2 with ⟨e2, f2⟩ | ⟨e2, f2⟩
        · subst e2
          have : r1 = ry := by rw [← f1]; exact f2
          subst this
          exact (same hi hy q1 hry).trans (hxy.symm.trans (same hx hj hrx q2))
        · have : r1 = r2 := by rw [← f1]; exact f2
          subst this
          exact same hi hj q1 q2
  refine ⟨gen a b ra rb ha hb hra hrb (fun _ _ => Iff.rfl), gen b a rb ra hb ha hrb hra (fun i j => ?_)⟩
  have swap : ∀ {u v : Int} {i j : Int}, Cls n (ps ++ [(u, v)]) i j → Cls n (ps ++ [(v, u)]) i j := by
    intro u v i j hc
    induction hc with
    | refl h0 h1 => exact .refl h0 h1
    | @pair i j hp h0 h1 h2 h3 =>
      rcases List.mem_append.1 hp with hp | hp
      · exact .pair (List.mem_append_left _ hp) h0 h1 h2 h3
      · have : (i, j) = (u, v) := by simpa using hp
        obtain ⟨rfl, rfl⟩ := Prod.mk.inj this
        exact .symm (.pair (by simp) h2 h3 h0 h1)
    | symm _ ih => exact .symm ih
    | trans _ _ ih1 ih2 => exact .trans ih1 ih2
  exact ⟨swap, swap⟩
/-- The numbers from 0 on, each for itself. -/
def alone (n : Nat) : List Int := (List.range n).map fun (i : Nat) => (i : Int)
theorem alone_P (n : Nat) (i : Int) (h0 : 0 ≤ i) (h1 : i < n) : P (alone n) i = i := by
  unfold P alone
  rw [List.getD_eq_getElem?_getD, List.getElem?_map, List.getElem?_range (by omega)]
  simp
  omega
theorem alone_stands (n : Nat) : Stands (alone n) n [] := by
  have hlen : (alone n).length = n := by simp [alone]
  have hok : Ok (alone n) := by
    intro i h0 h1
    rw [hlen] at h1 ⊢
    have := alone_P n i h0 h1
    exact ⟨by omega, i, .here this⟩
  refine ⟨hok, by rw [hlen], fun i j => ?_⟩
  constructor
  · intro hc
    refine ⟨hc.bd.1, hc.bd.2, ?_⟩
    have : i = j := by
      induction hc with
      | refl _ _ => rfl
      | pair h _ _ _ _ => cases h
      | symm _ ih => exact ih.symm
      | trans _ _ ih1 ih2 => exact ih1.trans ih2
    subst this
    exact ⟨i, .here (alone_P n i hc.bd.1.1 hc.bd.1.2), .here (alone_P n i hc.bd.1.1 hc.bd.1.2)⟩
  · rintro ⟨hi, hj, r, r1, r2⟩
    have e1 := r1.uniq (.here (alone_P n i hi.1 hi.2))
    have e2 := r2.uniq (.here (alone_P n j hj.1 hj.2))
    have : i = j := by rw [← e1, ← e2]
    subst this
    exact .refl hi.1 hi.2
end Go.Proofs.Ytjmhcbilefnhdaa.UF

namespace Go.Proofs.Ytjmhcbilefnhdaa.UF
set_option linter.unusedVariables false
/-- The numbers below n that point to themselves. -/
def roots (up : List Int) : List Nat := (List.range up.length).filter fun k => decide (P up (k : Int) = (k : Int))
theorem roots_nodup (up : List Int) : (roots up).Nodup := List.Pairwise.filter _ List.nodup_range
theorem mem_roots {up : List Int} {k : Nat} : k ∈ roots up ↔ k < up.length ∧ P up (k : Int) = (k : Int) := by
  unfold roots
  rw [List.mem_filter, List.mem_range]
  simp
/-- The root of a number's class. -/
noncomputable def rt (up : List Int) (i : Int) : Int := by
  classical
  exact if h : ∃ r, Root up i r then h.choose else i
theorem rt_of {up : List Int} {i r : Int} (h : Root up i r) : rt up i = r := by
  have hx : ∃ r, Root up i r := ⟨r, h⟩
  unfold rt
  rw [dif_pos hx]
  exact hx.choose_spec.uniq h
theorem Ok.rt {up : List Int} (h : Ok up) {i : Int} (h0 : 0 ≤ i) (h1 : i < up.length) : Root up i (UF.rt up i) := by
  obtain ⟨r, hr⟩ := (h i h0 h1).2
  rw [rt_of hr]
  exact hr
theorem Ok.rt_mem {up : List Int} (h : Ok up) {i : Int} (h0 : 0 ≤ i) (h1 : i < up.length) : (UF.rt up i).toNat ∈ roots up ∧ ((UF.rt up i).toNat : Int) = UF.rt up i := by
  have hr := h.rt h0 h1
  have hb := h.bd hr h0 h1
  have e : ((UF.rt up i).toNat : Int) = UF.rt up i := by omega
  exact ⟨mem_roots.2 ⟨by omega, by rw [e]; exact hr.root⟩, e⟩
theorem map_nodup {α β : Type} (f : α → β) : ∀ {l : List α}, l.Nodup → (∀ a b, a ∈ l → b ∈ l → f a = f b → a = b) → (l.map f).Nodup
  | [], _, _ => List.nodup_nil
  | x :: t, h, hf => by
    have h' := List.nodup_cons.1 h
    rw [List.map_cons, List.nodup_cons]
    refine ⟨fun hc => ?_, map_nodup f h'.2 (fun a b ha hb => hf a b (List.mem_cons_of_mem _ ha) (List.mem_cons_of_mem _ hb))⟩
    obtain ⟨y, hy, e⟩ := List.mem_map.1 hc
    have := hf y x (List.mem_cons_of_mem _ hy) List.mem_cons_self e
    subst this
    exact h'.1 hy
/-- Where a map of numbers parts classes, the second forest has at least as many roots. -/
theorem roots_map {u1 u2 : List Int} {n1 n2 : Int} {p1 p2 : List (Int × Int)} (h1 : Stands u1 n1 p1) (h2 : Stands u2 n2 p2) (f : Int → Int) (hf : ∀ i, 0 ≤ i → i < n1 → 0 ≤ f i ∧ f i < n2)
    (hc : ∀ i j, 0 ≤ i → i < n1 → 0 ≤ j → j < n1 → Cls n2 p2 (f i) (f j) → Cls n1 p1 i j) :
    ((roots u1).map fun (r : Nat) => (rt u2 (f (r : Int))).toNat).Nodup ∧ ∀ x, x ∈ (roots u1).map (fun (r : Nat) => (rt u2 (f (r : Int))).toNat) → x ∈ roots u2 := by
  have l1 := h1.len
  have l2 := h2.len
  have bd : ∀ a, a ∈ roots u1 → 0 ≤ (a : Int) ∧ (a : Int) < n1 := by
    intro a ha
    have := (mem_roots.1 ha).1
    omega
  refine ⟨map_nodup _ (roots_nodup u1) ?_, ?_⟩
  · intro a b ha hb e
    have ba := bd a ha
    have bb := bd b hb
    have fa := hf a ba.1 ba.2
    have fb := hf b bb.1 bb.2
    have ra := h2.ok.rt fa.1 (by omega)
    have rb := h2.ok.rt fb.1 (by omega)
    have ea := (h2.ok.rt_mem fa.1 (by omega)).2
    have eb := (h2.ok.rt_mem fb.1 (by omega)).2
    have e' : rt u2 (f (a : Int)) = rt u2 (f (b : Int)) := by
      rw [← ea, ← eb]
      exact congrArg _ e
    have c2 : Cls n2 p2 (f a) (f b) := (h2.cls _ _).2 ⟨fa, fb, _, ra, by rw [e']; exact rb⟩
    obtain ⟨_, _, s, s1, s2⟩ := (h1.cls _ _).1 (hc a b ba.1 ba.2 bb.1 bb.2 c2)
    have q1 := s1.uniq (.here (mem_roots.1 ha).2)
    have q2 := s2.uniq (.here (mem_roots.1 hb).2)
    omega
  · intro x hx
    obtain ⟨a, ha, rfl⟩ := List.mem_map.1 hx
    have ba := bd a ha
    have fa := hf a ba.1 ba.2
    exact (h2.ok.rt_mem fa.1 (by omega)).1
theorem roots_le {u1 u2 : List Int} {n1 n2 : Int} {p1 p2 : List (Int × Int)} (h1 : Stands u1 n1 p1) (h2 : Stands u2 n2 p2) (f : Int → Int) (hf : ∀ i, 0 ≤ i → i < n1 → 0 ≤ f i ∧ f i < n2)
    (hc : ∀ i j, 0 ≤ i → i < n1 → 0 ≤ j → j < n1 → Cls n2 p2 (f i) (f j) → Cls n1 p1 i j) : (roots u1).length ≤ (roots u2).length := by
  have h := roots_map h1 h2 f hf hc
  have := List.Nodup.length_le_of_subset h.1 h.2
  rwa [List.length_map] at this
theorem roots_perm {u1 u2 : List Int} {n : Int} {p1 p2 : List (Int × Int)} (h1 : Stands u1 n p1) (h2 : Stands u2 n p2) (hc : ∀ i j, Cls n p1 i j ↔ Cls n p2 i j) :
    List.Perm ((roots u1).map fun (r : Nat) => (rt u2 (r : Int)).toNat) (roots u2) := by
  have h := roots_map h1 h2 (fun i => i) (fun i a b => ⟨a, b⟩) (fun i j _ _ _ _ c => (hc i j).2 c)
  have l1 := h1.len
  have l2 := h2.len
  refine (List.perm_ext_iff_of_nodup h.1 (roots_nodup u2)).2 fun x => ⟨h.2 x, fun hx => ?_⟩
  have hb := (mem_roots.1 hx).1
  have m1 := h1.ok.rt_mem (i := (x : Int)) (by omega) (by omega)
  have r1 := h1.ok.rt (i := (x : Int)) (by omega) (by omega)
  have b1 := h1.ok.bd r1 (by omega) (by omega)
  refine List.mem_map.2 ⟨_, m1.1, ?_⟩
  rw [m1.2]
  have c1 : Cls n p1 (x : Int) (rt u1 (x : Int)) := (h1.cls _ _).2 ⟨by omega, by omega, _, r1, .here r1.root⟩
  obtain ⟨_, _, s, s1, s2⟩ := (h2.cls _ _).1 ((hc _ _).1 c1)
  have q1 := s1.uniq (.here (mem_roots.1 hx).2)
  rw [rt_of s2]
  omega
/-- How many numbers have this root. -/
noncomputable def csize (up : List Int) (r : Int) : Nat := ((List.range up.length).filter fun (k : Nat) => decide (rt up (k : Int) = r)).length
theorem csize_eq {u1 u2 : List Int} {n : Int} {p1 p2 : List (Int × Int)} (h1 : Stands u1 n p1) (h2 : Stands u2 n p2) (hc : ∀ i j, Cls n p1 i j ↔ Cls n p2 i j) {r : Nat} (hr : r ∈ roots u1) :
    csize u2 (rt u2 (r : Int)) = csize u1 (r : Int) := by
  have l1 := h1.len
  have l2 := h2.len
  have hb := mem_roots.1 hr
  unfold csize
  have el : u2.length = u1.length := by omega
  rw [el]
  congr 1
  apply List.filter_congr
  intro k hk
  have hk' := List.mem_range.1 hk
  have rk1 := h1.ok.rt (i := (k : Int)) (by omega) (by omega)
  have rk2 := h2.ok.rt (i := (k : Int)) (by omega) (by omega)
  have rr2 := h2.ok.rt (i := (r : Int)) (by omega) (by omega)
  apply decide_eq_decide.2
  constructor
  · intro e
    have c2 : Cls n p2 (k : Int) (r : Int) := (h2.cls _ _).2 ⟨by omega, by omega, _, by rw [← e]; exact rk2, rr2⟩
    obtain ⟨_, _, s, s1, s2⟩ := (h1.cls _ _).1 ((hc _ _).2 c2)
    rw [rt_of s1]
    exact (s2.uniq (.here hb.2))
  · intro e
    have c1 : Cls n p1 (k : Int) (r : Int) := (h1.cls _ _).2 ⟨by omega, by omega, _, rk1, by rw [e]; exact .here hb.2⟩
    obtain ⟨_, _, s, s1, s2⟩ := (h2.cls _ _).1 ((hc _ _).1 c1)
    rw [rt_of s1, rt_of s2]
/-- The sizes of the classes are the same, but for their order. -/
theorem sizes_perm {u1 u2 : List Int} {n : Int} {p1 p2 : List (Int × Int)} (h1 : Stands u1 n p1) (h2 : Stands u2 n p2) (hc : ∀ i j, Cls n p1 i j ↔ Cls n p2 i j) :
    List.Perm ((roots u1).map fun (r : Nat) => (csize u1 (r : Int) : Int)) ((roots u2).map fun (r : Nat) => (csize u2 (r : Int) : Int)) := by
  have h := (roots_perm h1 h2 hc).map fun (r : Nat) => (csize u2 (r : Int) : Int)
  rw [List.map_map] at h
  refine List.Perm.trans (List.Perm.of_eq ?_) h
  apply List.map_congr_left
  intro r hr
  have l1 := h1.len
  have l2 := h2.len
  have hb := (mem_roots.1 hr).1
  have e := (h2.ok.rt_mem (i := (r : Int)) (by omega) (by omega)).2
  show _ = (csize u2 _ : Int)
  rw [e, csize_eq h1 h2 hc hr]
/-- A number put behind the last one that is not greater. -/
def ins (l : List Int) (x : Int) : List Int := match l with
  | [] => [x]
  | y :: t => if y ≤ x then y :: ins t x else x :: y :: t
theorem ins_perm (x : Int) : ∀ l, List.Perm (ins l x) (x :: l)
  | [] => List.Perm.refl _
  | y :: t => by
    unfold ins
    split
    · exact ((ins_perm x t).cons y).trans (List.Perm.swap x y t)
    · exact List.Perm.refl _
theorem ins_sorted (x : Int) : ∀ l : List Int, l.Pairwise (· ≤ ·) → (ins l x).Pairwise (· ≤ ·)
  | [], _ => List.pairwise_singleton _ _
  | y :: t, h => by
    unfold ins
    have h' := List.pairwise_cons.1 h
    split
    · rename_i hy
      refine List.pairwise_cons.2 ⟨fun z hz => ?_, ins_sorted x t h'.2⟩
      rcases List.mem_cons.1 ((ins_perm x t).mem_iff.1 hz) with e | e
      · rw [e]; exact hy
      · exact h'.1 z e
    · rename_i hy
      refine List.pairwise_cons.2 ⟨fun z hz => ?_, h⟩
      rcases List.mem_cons.1 hz with e | e
      · rw [e]; omega
      · have := h'.1 z e
        omega
def isort (l acc : List Int) : List Int := l.foldl ins acc
theorem isort_perm : ∀ (l acc : List Int), List.Perm (isort l acc) (l ++ acc)
  | [], _ => List.Perm.refl _
  | x :: t, acc => by
    show List.Perm (isort t (ins acc x)) _
    refine (isort_perm t _).trans ?_
    refine ((ins_perm x acc).append_left t).trans ?_
    rw [List.cons_append]
    exact List.perm_middle
theorem isort_sorted : ∀ (l acc : List Int), acc.Pairwise (· ≤ ·) → (isort l acc).Pairwise (· ≤ ·)
  | [], _, h => h
  | x :: t, acc, h => isort_sorted t _ (ins_sorted x acc h)
/-- Two lists of the same numbers are sorted to one. -/
theorem isort_eq {l m : List Int} (h : List.Perm l m) : isort l [] = isort m [] := by
  have p := ((isort_perm l []).trans (h.append_right [])).trans (isort_perm m []).symm
  exact p.eq_of_pairwise (fun a b _ _ h1 h2 => Int.le_antisymm h1 h2) (isort_sorted l [] List.Pairwise.nil) (isort_sorted m [] List.Pairwise.nil)
/-- Where the place is found from the end. -/
theorem ins_at : ∀ (l : List Int) (x : Int) (at_ : Nat), at_ ≤ l.length → (∀ j, j < at_ → (h : j < l.length) → l[j] ≤ x) → (∀ h : at_ < l.length, x < l[at_]) → l.take at_ ++ (x :: l.drop at_) = ins l x
  | [], x, at_, h, _, _ => by
    simp
    rfl
  | y :: t, x, 0, _, _, h2 => by
    have := h2 (by simp)
    show x :: y :: t = ins (y :: t) x
    unfold ins
    rw [if_neg (by simpa using this)]
  | y :: t, x, at_ + 1, h, h1, h2 => by
    have hy := h1 0 (by omega) (by simp)
    unfold ins
    rw [if_pos (show y ≤ x from by simpa using hy)]
    rw [List.take_succ_cons, List.drop_succ_cons, List.cons_append]
    rw [ins_at t x at_ (by simpa using h) (fun j hj hl => by have := h1 (j + 1) (by omega) (by simpa using hl); simpa using this) (fun hl => by have := h2 (by simpa using hl); simpa using this)]
end Go.Proofs.Ytjmhcbilefnhdaa.UF

namespace Go.Proofs.Ytjmhcbilefnhdaa.UF
set_option linter.unusedVariables false
theorem Cls.map {n1 n2 : Int} {p1 p2 : List (Int × Int)} (f : Int → Int) (hf : ∀ i, 0 ≤ i → i < n1 → 0 ≤ f i ∧ f i < n2) (hp : ∀ i j, (i, j) ∈ p1 → 0 ≤ i → i < n1 → 0 ≤ j → j < n1 → Cls n2 p2 (f i) (f j)) {i j : Int} (h : Cls n1 p1 i j) : Cls n2 p2 (f i) (f j) := by
  induction h with
  | refl h0 h1 =>
    have := hf _ h0 h1
    exact .refl this.1 this.2
  | pair h h0 h1 h2 h3 => exact hp _ _ h h0 h1 h2 h3
  | symm _ ih => exact ih.symm
  | trans _ _ ih1 ih2 => exact ih1.trans ih2
theorem Stands.same_iff {up : List Int} {n : Int} {ps : List (Int × Int)} (h : Stands up n ps) {i j : Int} (hi : 0 ≤ i ∧ i < n) (hj : 0 ≤ j ∧ j < n) : rt up i = rt up j ↔ Cls n ps i j := by
  have hl := h.len
  have ri := h.ok.rt hi.1 (by omega)
  have rj := h.ok.rt hj.1 (by omega)
  rw [h.cls]
  constructor
  · intro e
    exact ⟨hi, hj, _, ri, by rw [e]; exact rj⟩
  · rintro ⟨_, _, s, s1, s2⟩
    rw [rt_of s1, rt_of s2]
/-- How long a way to a root can be: as long as the forest. -/
inductive Way (up : List Int) : Nat → Int → Int → Prop
  | here {r : Int} (h : P up r = r) : Way up 0 r r
  | step {k : Nat} {i r : Int} (h : P up i ≠ i) (w : Way up k (P up i) r) : Way up (k + 1) i r
theorem Root.way {up : List Int} {i r : Int} (h : Root up i r) : ∃ k, Way up k i r := by
  induction h with
  | here h => exact ⟨0, .here h⟩
  | step h _ ih =>
    obtain ⟨k, hk⟩ := ih
    exact ⟨k + 1, .step h hk⟩
theorem Way.root {up : List Int} {k : Nat} {i r : Int} (h : Way up k i r) : Root up i r := by
  induction h with
  | here h => exact .here h
  | step h _ ih => exact .step h ih
theorem Way.uniq {up : List Int} {k : Nat} {i r : Int} (h : Way up k i r) : ∀ {m : Nat} {s : Int}, Way up m i s → k = m := by
  induction h with
  | here h =>
    intro m s hs
    cases hs with
    | here _ => rfl
    | step h2 _ => exact absurd h h2
  | step h _ ih =>
    intro m s hs
    cases hs with
    | here h2 => exact absurd h2 h
    | step _ k2 => rw [ih k2]
/-- The numbers on a way. -/
def path (up : List Int) : Nat → Int → List Int
  | 0, i => [i]
  | k + 1, i => i :: path up k (P up i)
theorem path_len (up : List Int) : ∀ k i, (path up k i).length = k + 1
  | 0, _ => rfl
  | k + 1, i => by rw [path, List.length_cons, path_len up k]
theorem Way.nodup {up : List Int} {k : Nat} {i r : Int} (h : Way up k i r) : (path up k i).Nodup ∧ ∀ x, x ∈ path up k i → ∃ m, m ≤ k ∧ Way up m x r := by
  induction h with
  | @here r h =>
    refine ⟨by simp [path], fun x hx => ?_⟩
    have : x = r := by simpa [path] using hx
    subst this
    exact ⟨0, Nat.le_refl _, .here h⟩
  | @step k i r h w ih =>
    refine ⟨?_, fun x hx => ?_⟩
    · rw [path, List.nodup_cons]
      refine ⟨fun hc => ?_, ih.1⟩
      obtain ⟨m, hm, hw⟩ := ih.2 _ hc
      have := hw.uniq (Way.step h w)
      omega
    · rw [path] at hx
      rcases List.mem_cons.1 hx with e | e
      · subst e
        exact ⟨k + 1, Nat.le_refl _, .step h w⟩
      · obtain ⟨m, hm, hw⟩ := ih.2 _ e
        exact ⟨m, by omega, hw⟩
theorem Ok.path_bd {up : List Int} (hok : Ok up) : ∀ (k : Nat) (i : Int), 0 ≤ i → i < up.length → ∀ x, x ∈ path up k i → 0 ≤ x ∧ x < up.length
  | 0, i, h0, h1, x, hx => by
    have : x = i := by simpa [path] using hx
    omega
  | k + 1, i, h0, h1, x, hx => by
    rw [path] at hx
    rcases List.mem_cons.1 hx with e | e
    · omega
    · exact Ok.path_bd hok k _ (hok i h0 h1).1.1 (hok i h0 h1).1.2 x e
theorem Way.short {up : List Int} (hok : Ok up) {k : Nat} {i r : Int} (h : Way up k i r) (h0 : 0 ≤ i) (h1 : i < up.length) : k < up.length := by
  have hb := hok.path_bd k i h0 h1
  have hn := map_nodup (fun (x : Int) => x.toNat) h.nodup.1 (fun a b ha hb' e => by
    have := hb a ha
    have := hb b hb'
    have e' : a.toNat = b.toNat := e
    omega)
  have := List.Nodup.length_le_of_subset (l₂ := List.range up.length) hn (fun x hx => by
    obtain ⟨a, ha, rfl⟩ := List.mem_map.1 hx
    have := hb a ha
    exact List.mem_range.2 (by omega))
  rw [List.length_map, path_len, List.length_range] at this
  omega
/-- Every number has a way to its root that is shorter than the forest. -/
theorem Ok.way {up : List Int} (hok : Ok up) {i : Int} (h0 : 0 ≤ i) (h1 : i < up.length) : ∃ k, k < up.length ∧ Way up k i (UF.rt up i) := by
  obtain ⟨k, hk⟩ := (hok.rt h0 h1).way
  exact ⟨k, hk.short hok h0 h1, hk⟩
end Go.Proofs.Ytjmhcbilefnhdaa.UF


namespace Go.Proofs.Ytjmhcbilefnhdaa.L
open Go.RowKit Go.Proofs.Ytjmhcbilefnhdaa.P Go.Proofs.Ytjmhcbilefnhdaa.Help Go.Proofs.YtjmhcbilefnhdaaW.PrintWords
set_option linter.unusedVariables false
set_option linter.unusedSimpArgs false

theorem w_id {a : Int} (h0 : -9223372036854775808 ≤ a) (h1 : a ≤ 9223372036854775807) : wrap64 a = a := by unfold wrap64; omega
theorem mulb {a b A B : Int} (h1 : -A ≤ a) (h2 : a ≤ A) (h3 : -B ≤ b) (h4 : b ≤ B) : -(A * B) ≤ a * b ∧ a * b ≤ A * B := by
  have hA : 0 ≤ A := by omega
  have hB : 0 ≤ B := by omega
  have h : (a * b).natAbs ≤ (A * B).natAbs := by
    rw [Int.natAbs_mul, Int.natAbs_mul]
    exact Nat.mul_le_mul (by omega) (by omega)
  have hp : 0 ≤ A * B := Int.mul_nonneg hA hB
  omega
theorem rd_nat (xs : List Int) (i : Nat) (h : i < xs.length) : rd xs (i : Int) = xs[i] := by
  unfold rd
  simp [List.getD_eq_getElem?_getD, List.getElem?_eq_getElem h]
theorem bind_ite {α β : Type} {c : Prop} [Decidable c] (x y : Option α) (f : α → Option β) : (if c then x else y).bind f = if c then x.bind f else y.bind f := by split <;> rfl
theorem unit_of {a d : Int} (h : a * d = 1) : a = 1 ∨ a = -1 := by
  have h1 : a.natAbs * d.natAbs = 1 := by rw [← Int.natAbs_mul, h]; rfl
  have h2 : a.natAbs = 1 := Nat.eq_one_of_mul_eq_one_right h1
  omega
end Go.Proofs.Ytjmhcbilefnhdaa.L

namespace Go.Proofs.Ytjmhcbilefnhdaa.L
open Go.RowKit Go.Proofs.Ytjmhcbilefnhdaa.P Go.Proofs.Ytjmhcbilefnhdaa.Help Go.Proofs.YtjmhcbilefnhdaaW.PrintWords
set_option linter.unusedVariables false
set_option linter.unusedSimpArgs false

theorem top_way {up : List Int} (hok : UF.Ok up) {k : Nat} {i r : Int} (h : UF.Way up k i r) : ∀ m, k < m → 0 ≤ i → i < up.length → joiner_top.l0 m up i = some r := by
  induction h with
  | @here r h =>
    intro m hm h0 h1
    obtain ⟨m, rfl⟩ : ∃ q, m = q + 1 := ⟨m - 1, by omega⟩
    simp only [joiner_top.l0]
    rw [if_pos h0, if_pos h1, if_pos (show rd up r = r from h)]
  | @step k i r h w ih =>
    intro m hm h0 h1
    obtain ⟨m, rfl⟩ : ∃ q, m = q + 1 := ⟨m - 1, by omega⟩
    have hb := (hok i h0 h1).1
    simp only [joiner_top.l0]
    rw [if_pos h0, if_pos h1, if_neg (show ¬ rd up i = i from h)]
    exact ih m (by omega) hb.1 hb.2
theorem find_way {up : List Int} (hok : UF.Ok up) {k : Nat} {i r : Int} (h : UF.Way up k i r) : ∀ m, k < m → 0 ≤ i → i < up.length → spec_l3Find.l0 m up i = some r := by
  induction h with
  | @here r h =>
    intro m hm h0 h1
    obtain ⟨m, rfl⟩ : ∃ q, m = q + 1 := ⟨m - 1, by omega⟩
    simp only [spec_l3Find.l0]
    rw [if_pos h0, if_pos h1, if_pos (show rd up r = r from h)]
  | @step k i r h w ih =>
    intro m hm h0 h1
    obtain ⟨m, rfl⟩ : ∃ q, m = q + 1 := ⟨m - 1, by omega⟩
    have hb := (hok i h0 h1).1
    simp only [spec_l3Find.l0]
    rw [if_pos h0, if_pos h1, if_neg (show ¬ rd up i = i from h)]
    exact ih m (by omega) hb.1 hb.2
theorem top_f {up : List Int} (hok : UF.Ok up) {i : Int} (h0 : 0 ≤ i) (h1 : i < up.length) {m : Nat} (hm : up.length ≤ m) : joiner_top.l0 m up i = some (UF.rt up i) := by
  obtain ⟨k, hk, w⟩ := hok.way h0 h1
  exact top_way hok w m (by omega) h0 h1
theorem find3_f {up : List Int} (hok : UF.Ok up) {i : Int} (h0 : 0 ≤ i) (h1 : i < up.length) {m : Nat} (hm : up.length ≤ m) : spec_l3Find.f m up i = some (UF.rt up i) := by
  obtain ⟨k, hk, w⟩ := hok.way h0 h1
  exact find_way hok w m (by omega) h0 h1
theorem join_f {up : List Int} {n : Int} {ps : List (Int × Int)} (h : UF.Stands up n ps) {a b : Int} (ha : 0 ≤ a ∧ a < n) (hb : 0 ≤ b ∧ b < n) {m : Nat} (hm : up.length ≤ m) : ∃ ys, joiner_join.f m up a b = some ys ∧ UF.Stands ys n (ps ++ [(a, b)]) := by
  have hl := h.len
  have ra := h.ok.rt ha.1 (by omega)
  have rb := h.ok.rt hb.1 (by omega)
  have ba := h.ok.bd ra ha.1 (by omega)
  have bb := h.ok.bd rb hb.1 (by omega)
  have J := h.join ha hb ra rb
  unfold joiner_join.f
  rw [top_f h.ok ha.1 (by omega) hm, Option.bind_some, top_f h.ok hb.1 (by omega) hm, Option.bind_some]
  unfold joiner_join.put
  by_cases c : UF.rt up a > UF.rt up b
  · rw [if_pos c, if_pos ba.1, if_pos ba.2]
    exact ⟨_, rfl, J.1⟩
  · rw [if_neg c, if_pos bb.1, if_pos bb.2]
    exact ⟨_, rfl, J.2⟩
theorem alone_succ (n : Nat) : UF.alone (n + 1) = UF.alone n ++ [(n : Int)] := by
  unfold UF.alone
  rw [List.range_succ, List.map_append]
  rfl
theorem alone_len (n : Nat) : (UF.alone n).length = n := by simp [UF.alone]
theorem newJoiner_l0 (n : Nat) (hn : n ≤ 1000000) : ∀ (d k i : Nat), i + d = n → d < k → impl_newJoiner.l0 k (n : Int) (UF.alone i) (i : Int) = some (UF.alone n) := by
  intro d
  induction d with
  | zero =>
    intro k i hi hk
    obtain ⟨k, rfl⟩ : ∃ m, k = m + 1 := ⟨k - 1, by omega⟩
    simp only [impl_newJoiner.l0]
    rw [if_neg (by omega), show i = n by omega]
  | succ d ih =>
    intro k i hi hk
    obtain ⟨k, rfl⟩ : ∃ m, k = m + 1 := ⟨k - 1, by omega⟩
    simp only [impl_newJoiner.l0]
    rw [if_pos (by omega), if_pos (by rw [alone_len]; omega), w_id (by omega) (by omega), show ((i : Int) + 1) = ((i + 1 : Nat) : Int) by omega, ← alone_succ, ih k (i + 1) (by omega) (by omega)]
theorem newJoiner_f (n : Nat) (hn : n ≤ 1000000) (k : Nat) (hk : n < k) : impl_newJoiner.l0 k (n : Int) [] 0 = some (UF.alone n) := newJoiner_l0 n hn n k 0 (by omega) hk
/-- The pairs of all triangles, side by side. -/
def rowG (f : Nat → Nat → List (Int × Int)) (i : Nat) : Nat → Nat → List (Int × Int)
  | 0, _ => []
  | d + 1, j => f i j ++ rowG f i d (j + 1)
def allG (f : Nat → Nat → List (Int × Int)) : Nat → Nat → List (Int × Int)
  | 0, _ => []
  | d + 1, i => rowG f i 3 0 ++ allG f d (i + 1)
theorem mem_rowG {f : Nat → Nat → List (Int × Int)} {i : Nat} {p : Int × Int} : ∀ (d j : Nat), p ∈ rowG f i d j ↔ ∃ q, j ≤ q ∧ q < j + d ∧ p ∈ f i q
  | 0, j => by
    simp only [rowG, List.not_mem_nil, false_iff]
    rintro ⟨q, h1, h2, _⟩
    omega
  | d + 1, j => by
    rw [rowG, List.mem_append, mem_rowG d (j + 1)]
    constructor
    · rintro (h | ⟨q, h1, h2, h3⟩)
      · exact ⟨j, by omega, by omega, h⟩
      · exact ⟨q, by omega, by omega, h3⟩
    · rintro ⟨q, h1, h2, h3⟩
      by_cases e : q = j
      · subst e; exact .inl h3
      · exact .inr ⟨q, by omega, by omega, h3⟩
theorem mem_allG {f : Nat → Nat → List (Int × Int)} {p : Int × Int} : ∀ (d i : Nat), p ∈ allG f d i ↔ ∃ r, i ≤ r ∧ r < i + d ∧ ∃ q, q < 3 ∧ p ∈ f r q
  | 0, i => by
    simp only [allG, List.not_mem_nil, false_iff]
    rintro ⟨q, h1, h2, _⟩
    omega
  | d + 1, i => by
    rw [allG, List.mem_append, mem_rowG, mem_allG d (i + 1)]
    constructor
    · rintro (⟨q, _, h2, h3⟩ | ⟨r, h1, h2, h3⟩)
      · exact ⟨i, by omega, by omega, q, by omega, h3⟩
      · exact ⟨r, by omega, by omega, h3⟩
    · rintro ⟨r, h1, h2, q, h3, h4⟩
      by_cases e : r = i
      · subst e; exact .inl ⟨q, by omega, by omega, h4⟩
      · exact .inr ⟨r, by omega, by omega, q, h3, h4⟩
end Go.Proofs.Ytjmhcbilefnhdaa.L

namespace Go.Proofs.Ytjmhcbilefnhdaa.L
open Go.RowKit Go.Proofs.Ytjmhcbilefnhdaa.P Go.Proofs.Ytjmhcbilefnhdaa.Help Go.Proofs.YtjmhcbilefnhdaaW.PrintWords
set_option linter.unusedVariables false
set_option linter.unusedSimpArgs false

theorem l1In_eq (a lo hi : Int) : spec_l1In.f a lo hi = some (decide (lo ≤ a ∧ a ≤ hi)) := by
  unfold spec_l1In.f
  by_cases h : lo ≤ a <;> simp [h]
theorem within_eq (a lo hi : Int) : impl_within.f a lo hi = some (decide (lo ≤ a ∧ a ≤ hi)) := by
  unfold impl_within.f
  by_cases h : lo ≤ a <;> simp [h]
end Go.Proofs.Ytjmhcbilefnhdaa.L

namespace Go.Proofs.Ytjmhcbilefnhdaa.L
open Go.RowKit Go.Proofs.Ytjmhcbilefnhdaa.P Go.Proofs.Ytjmhcbilefnhdaa.Help Go.Proofs.YtjmhcbilefnhdaaW.PrintWords
set_option linter.unusedVariables false
set_option linter.unusedSimpArgs false

theorem toIntS_l0 (xs : List Int) (hx : xs.length ≤ 1000000000000) : ∀ (d k i : Nat) (ys : List Int), i + d = xs.length → d < k → ys.length = xs.length → ys.take i = xs.take i → laws_toIntS.l0 k xs ys (i : Int) = some xs := by
  intro d
  induction d with
  | zero =>
    intro k i ys hi hk hl ht
    obtain ⟨k, rfl⟩ : ∃ m, k = m + 1 := ⟨k - 1, by omega⟩
    simp only [laws_toIntS.l0]
    rw [if_neg (by omega)]
    rw [List.take_of_length_le (by omega), List.take_of_length_le (by omega)] at ht
    rw [ht]
  | succ d ih =>
    intro k i ys hi hk hl ht
    obtain ⟨k, rfl⟩ : ∃ m, k = m + 1 := ⟨k - 1, by omega⟩
    simp only [laws_toIntS.l0]
    rw [if_pos (by omega), if_pos (by omega), if_pos (by omega), w_id (by omega) (by omega), show ((i : Int) + 1) = ((i + 1 : Nat) : Int) by omega, Int.toNat_natCast, rd_nat xs i (by omega)]
    refine ih k (i + 1) _ (by omega) (by omega) (by rw [List.length_set]; exact hl) ?_
    rw [List.take_succ_eq_append_getElem (by rw [List.length_set]; omega), List.take_succ_eq_append_getElem (by omega), List.getElem_set_self, List.take_set_of_le (by omega), ht]
theorem toIntS_f (xs : List Int) (hx : xs.length ≤ 1048576) (k : Nat) (hk : 1048576 < k) : laws_toIntS.f k xs = some xs := by
  unfold laws_toIntS.f
  rw [if_pos (by omega), if_pos (by omega), Int.toNat_natCast]
  exact toIntS_l0 xs (by omega) xs.length k 0 _ (by omega) (by omega) (by simp) (by simp)
theorem eqIntS_l0 (xs : List Int) (hx : xs.length ≤ 1000000000000) : ∀ (d k i : Nat), i + d = xs.length → d < k → laws_eqIntS.l0 k xs xs (i : Int) = some true := by
  intro d
  induction d with
  | zero =>
    intro k i hi hk
    obtain ⟨k, rfl⟩ : ∃ m, k = m + 1 := ⟨k - 1, by omega⟩
    simp only [laws_eqIntS.l0]
    rw [if_neg (by omega)]
  | succ d ih =>
    intro k i hi hk
    obtain ⟨k, rfl⟩ : ∃ m, k = m + 1 := ⟨k - 1, by omega⟩
    simp only [laws_eqIntS.l0]
    rw [if_pos (by omega), if_pos (by omega), if_pos (by omega)]
    simp only [if_true]
    rw [w_id (by omega) (by omega), show ((i : Int) + 1) = ((i + 1 : Nat) : Int) by omega, ih k (i + 1) (by omega) (by omega)]
theorem eqIntS_self (xs : List Int) (hx : xs.length ≤ 1048576) (k : Nat) (hk : 1048576 < k) : laws_eqIntS.f k xs xs = some true := by
  unfold laws_eqIntS.f
  rw [if_pos rfl]
  exact eqIntS_l0 xs (by omega) xs.length k 0 (by omega) (by omega)
end Go.Proofs.Ytjmhcbilefnhdaa.L

namespace Go.Proofs.Ytjmhcbilefnhdaa.L
open Go.RowKit Go.Proofs.Ytjmhcbilefnhdaa.P Go.Proofs.Ytjmhcbilefnhdaa.Help Go.Proofs.YtjmhcbilefnhdaaW.PrintWords
set_option linter.unusedVariables false
set_option linter.unusedSimpArgs false

/-- How many numbers. -/
def tot : List (List Int) → Nat
  | [] => 0
  | r :: rs => r.length + tot rs
theorem rdL_nat (xs : List (List Int)) (i : Nat) (h : i < xs.length) : rd_L1 xs (i : Int) = xs[i] := by
  unfold rd_L1
  simp [List.getD_eq_getElem?_getD, List.getElem?_eq_getElem h]
end Go.Proofs.Ytjmhcbilefnhdaa.L

namespace Go.Proofs.Ytjmhcbilefnhdaa.L
open Go.RowKit Go.Proofs.Ytjmhcbilefnhdaa.P Go.Proofs.Ytjmhcbilefnhdaa.Help Go.Proofs.YtjmhcbilefnhdaaW.PrintWords
set_option linter.unusedVariables false
set_option linter.unusedSimpArgs false

/-- The letters of a row, put to those that are seen. -/
def rowR (n : Int) : List Int → List Int → Option (List Int)
  | seen, [] => some seen
  | seen, x :: xs => if x ≠ 0 ∧ (-n ≤ x ∧ x ≤ n) ∧ x ∉ seen then rowR n (x :: seen) xs else none
def triR (n : Int) : List Int → List (List Int) → Bool
  | _, [] => true
  | seen, r :: rs => if r.length = 3 then (match rowR n seen r with | some s => triR n s rs | none => false) else false
/-- The number of edges. -/
def edges (t : List (List Int)) : Int := wrap64 (Int.tdiv (wrap64 (3 * (t.length : Int))) 2)
def isT (t : List (List Int)) : Bool := if (t.length : Int) % 2 = 0 ∧ 3 ≤ edges t ∧ edges t ≤ 9 then triR (edges t) [] t else false

theorem impl_tri_l1 (t : List (List Int)) (n : Int) (hn : 3 ≤ n ∧ n ≤ 9) (i : Nat) (hi : i < t.length) (hl : t[i].length = 3) : ∀ (d j k : Nat) (seen : List Int), j + d = 3 → d < k →
    impl_IsTriangulation.l1 k t n seen (i : Int) (j : Int) = (match rowR n seen (t[i].drop j) with | some s => impl_IsTriangulation.l0 (k - d - 1) t n s (wrap64 ((i : Int) + 1)) | none => some false) := by
  intro d
  induction d with
  | zero =>
    intro j k seen hj hk
    obtain ⟨k, rfl⟩ : ∃ m, k = m + 1 := ⟨k - 1, by omega⟩
    simp only [impl_IsTriangulation.l1]
    rw [rdL_nat t i hi, if_neg (by omega), List.drop_of_length_le (by omega)]
    rfl
  | succ d ih =>
    intro j k seen hj hk
    obtain ⟨k, rfl⟩ : ∃ m, k = m + 1 := ⟨k - 1, by omega⟩
    have hlt : j < t[i].length := by omega
    simp only [impl_IsTriangulation.l1]
    rw [rdL_nat t i hi, if_pos (by omega), if_pos (by omega), rd_nat _ j hlt, within_eq, Option.bind_some, w_id (a := -n) (by omega) (by omega), List.drop_eq_getElem_cons hlt]
    by_cases h1 : t[i][j] = 0
    · rw [if_pos h1]
      simp [rowR, h1]
    · rw [if_neg h1]
      by_cases h2 : -n ≤ t[i][j] ∧ t[i][j] ≤ n
      · rw [if_pos (by simpa using h2)]
        by_cases h3 : t[i][j] ∈ seen
        · rw [if_pos h3]
          simp [rowR, h3]
        · rw [if_neg h3, w_id (a := (j : Int) + 1) (by omega) (by omega), show ((j : Int) + 1) = ((j + 1 : Nat) : Int) by omega, ih (j + 1) k _ (by omega) (by omega), rowR, if_pos ⟨h1, h2, h3⟩, show k + 1 - (d + 1) - 1 = k - d - 1 by omega]
      · rw [if_neg (by simpa using h2), rowR, if_neg (fun h => h2 h.2.1)]
theorem impl_tri_l0 (t : List (List Int)) (ht : t.length ≤ 1048600) (n : Int) (hn : 3 ≤ n ∧ n ≤ 9) : ∀ (d i k : Nat) (seen : List Int), i + d = t.length → 5 * d < k →
    impl_IsTriangulation.l0 k t n seen (i : Int) = some (triR n seen (t.drop i)) := by
  intro d
  induction d with
  | zero =>
    intro i k seen hi hk
    obtain ⟨k, rfl⟩ : ∃ m, k = m + 1 := ⟨k - 1, by omega⟩
    simp only [impl_IsTriangulation.l0]
    rw [if_neg (by omega), List.drop_of_length_le (by omega)]
    rfl
  | succ d ih =>
    intro i k seen hi hk
    obtain ⟨k, rfl⟩ : ∃ m, k = m + 1 := ⟨k - 1, by omega⟩
    have hlt : i < t.length := by omega
    simp only [impl_IsTriangulation.l0]
    rw [if_pos (by omega), if_pos (by omega), rdL_nat t i hlt, List.drop_eq_getElem_cons hlt, triR]
    by_cases h1 : t[i].length = 3
    · have := impl_tri_l1 t n hn i hlt h1 3 0 k seen (by omega) (by omega)
      rw [if_pos (by omega), if_pos h1, show (0 : Int) = ((0 : Nat) : Int) from rfl, this, List.drop_zero]
      cases rowR n seen t[i] with
      | none => rfl
      | some s =>
        show impl_IsTriangulation.l0 _ t n s _ = some (triR n s _)
        rw [w_id (by omega) (by omega), show ((i : Int) + 1) = ((i + 1 : Nat) : Int) by omega, ih (i + 1) _ s (by omega) (by omega)]
    · rw [if_neg (by omega), if_neg h1]
theorem impl_isT' (t : List (List Int)) (ht : t.length ≤ 1048600) (k : Nat) (hk : 6000000 < k) : impl_IsTriangulation.f k t = some (isT t) := by
  obtain ⟨k, rfl⟩ : ∃ m, k = m + 1 := ⟨k - 1, by omega⟩
  unfold impl_IsTriangulation.f
  rw [within_eq, Option.bind_some]
  unfold isT edges
  by_cases h1 : (t.length : Int) % 2 = 0
  · rw [if_pos h1]
    simp only [impl_IsTriangulation.j0]
    by_cases h2 : 3 ≤ wrap64 (Int.tdiv (wrap64 (3 * (t.length : Int))) 2) ∧ wrap64 (Int.tdiv (wrap64 (3 * (t.length : Int))) 2) ≤ 9
    · rw [if_neg (by simpa using h2), if_pos ⟨h1, h2⟩]
      have := impl_tri_l0 t ht _ h2 t.length 0 k [] (by omega) (by omega)
      rw [List.drop_zero] at this
      exact this
    · rw [if_pos (by rw [decide_eq_false h2]; rfl), if_neg (fun h => h2 h.2)]
  · rw [if_neg h1]
    simp only [impl_IsTriangulation.j0]
    rw [if_pos trivial, if_neg (fun h => h1 h.1)]
/-- What is marked is what is seen. -/
def Marks (n : Int) (x4 : List Bool) (seen : List Int) : Prop := (x4.length : Int) = 2 * n + 1 ∧ ∀ y, -n ≤ y → y ≤ n → rdOf false x4 (n + y) = decide (y ∈ seen)
theorem Marks.put {n : Int} {x4 : List Bool} {seen : List Int} (h : Marks n x4 seen) {x : Int} (hx : -n ≤ x ∧ x ≤ n) : Marks n (x4.set (n + x).toNat true) (x :: seen) := by
  obtain ⟨h1, h2⟩ := h
  refine ⟨by rw [List.length_set]; exact h1, fun y hy1 hy2 => ?_⟩
  have h3 := h2 y hy1 hy2
  unfold rdOf at h3 ⊢
  rw [List.getD_eq_getElem?_getD] at h3 ⊢
  rw [List.getElem?_set]
  by_cases e : (n + x).toNat = (n + y).toNat
  · have : x = y := by omega
    subst this
    rw [if_pos rfl, if_pos (by omega)]
    simp
  · have hne : y ≠ x := fun e' => e (by rw [e'])
    rw [if_neg e, h3]
    simp [hne]
theorem Marks.made {n : Int} (hn : 0 ≤ n) : Marks n (List.replicate (2 * n + 1).toNat false) [] := by
  refine ⟨by rw [List.length_replicate]; omega, fun y _ _ => ?_⟩
  unfold rdOf
  rw [List.getD_eq_getElem?_getD, List.getElem?_replicate]
  split <;> simp
theorem spec_tri_l1 (t : List (List Int)) (n : Int) (hn : 3 ≤ n ∧ n ≤ 9) (i : Nat) (hi : i < t.length) (hl : t[i].length = 3) : ∀ (d j k : Nat) (x4 : List Bool) (seen : List Int), Marks n x4 seen → j + d = 3 → d < k →
    (rowR n seen (t[i].drop j) = none ∧ spec_IsTriangulation.l1 k t n x4 (i : Int) (j : Int) = some false) ∨ ∃ s x4', rowR n seen (t[i].drop j) = some s ∧ Marks n x4' s ∧ spec_IsTriangulation.l1 k t n x4 (i : Int) (j : Int) = spec_IsTriangulation.l0 (k - d - 1) t n x4' (wrap64 ((i : Int) + 1)) := by
  intro d
  induction d with
  | zero =>
    intro j k x4 seen hm hj hk
    obtain ⟨k, rfl⟩ : ∃ m, k = m + 1 := ⟨k - 1, by omega⟩
    simp only [spec_IsTriangulation.l1]
    rw [if_neg (by omega), List.drop_of_length_le (by omega)]
    exact .inr ⟨seen, x4, rfl, hm, rfl⟩
  | succ d ih =>
    intro j k x4 seen hm hj hk
    obtain ⟨k, rfl⟩ : ∃ m, k = m + 1 := ⟨k - 1, by omega⟩
    have hlt : j < t[i].length := by omega
    simp only [spec_IsTriangulation.l1]
    rw [if_pos (by omega), if_pos (by omega), if_pos (by omega), if_pos (by omega), rdL_nat t i hi, if_pos (by omega), rd_nat _ j hlt, l1In_eq, Option.bind_some, w_id (a := -n) (by omega) (by omega), List.drop_eq_getElem_cons hlt]
    by_cases h1 : t[i][j] = 0
    · rw [if_pos h1]
      exact .inl ⟨by simp [rowR, h1], rfl⟩
    · rw [if_neg h1]
      by_cases h2 : -n ≤ t[i][j] ∧ t[i][j] ≤ n
      · have hx := hm.2 _ h2.1 h2.2
        have hlen := hm.1
        rw [if_pos (by simpa using h2), w_id (a := n + t[i][j]) (by omega) (by omega), if_pos (by omega), if_pos (by omega), hx]
        by_cases h3 : t[i][j] ∈ seen
        · rw [if_pos (by simpa using h3)]
          exact .inl ⟨by simp [rowR, h3], rfl⟩
        · rw [if_neg (by simpa using h3), w_id (a := (j : Int) + 1) (by omega) (by omega), show ((j : Int) + 1) = ((j + 1 : Nat) : Int) by omega, rowR, if_pos ⟨h1, h2, h3⟩, show k + 1 - (d + 1) - 1 = k - d - 1 by omega]
          exact ih (j + 1) k _ _ (hm.put h2) (by omega) (by omega)
      · rw [if_neg (by simpa using h2), rowR, if_neg (fun h => h2 h.2.1)]
        exact .inl ⟨rfl, rfl⟩
theorem spec_tri_l0 (t : List (List Int)) (ht : t.length ≤ 1048600) (n : Int) (hn : 3 ≤ n ∧ n ≤ 9) : ∀ (d i k : Nat) (x4 : List Bool) (seen : List Int), Marks n x4 seen → i + d = t.length → 5 * d < k →
    spec_IsTriangulation.l0 k t n x4 (i : Int) = some (triR n seen (t.drop i)) := by
  intro d
  induction d with
  | zero =>
    intro i k x4 seen hm hi hk
    obtain ⟨k, rfl⟩ : ∃ m, k = m + 1 := ⟨k - 1, by omega⟩
    simp only [spec_IsTriangulation.l0]
    rw [if_neg (by omega), List.drop_of_length_le (by omega)]
    rfl
  | succ d ih =>
    intro i k x4 seen hm hi hk
    obtain ⟨k, rfl⟩ : ∃ m, k = m + 1 := ⟨k - 1, by omega⟩
    have hlt : i < t.length := by omega
    simp only [spec_IsTriangulation.l0]
    rw [if_pos (by omega), if_pos (by omega), rdL_nat t i hlt, List.drop_eq_getElem_cons hlt, triR]
    by_cases h1 : t[i].length = 3
    · rw [if_pos (by omega), if_pos h1, show (0 : Int) = ((0 : Nat) : Int) from rfl]
      rcases spec_tri_l1 t n hn i hlt h1 3 0 k x4 seen hm (by omega) (by omega) with ⟨h2, h3⟩ | ⟨s, x4', h2, h3, h4⟩
      · rw [h3]
        rw [List.drop_zero] at h2
        rw [h2]
      · rw [h4]
        rw [List.drop_zero] at h2
        rw [h2, w_id (by omega) (by omega), show ((i : Int) + 1) = ((i + 1 : Nat) : Int) by omega]
        exact ih (i + 1) _ x4' s h3 (by omega) (by omega)
    · rw [if_neg (by omega), if_neg h1]
theorem spec_isT' (t : List (List Int)) (ht : t.length ≤ 1048600) (k : Nat) (hk : 6000000 < k) : spec_IsTriangulation.f k t = some (isT t) := by
  obtain ⟨k, rfl⟩ : ∃ m, k = m + 1 := ⟨k - 1, by omega⟩
  unfold spec_IsTriangulation.f
  rw [l1In_eq, Option.bind_some]
  unfold isT edges
  by_cases h1 : (t.length : Int) % 2 = 0
  · rw [if_pos h1]
    simp only [spec_IsTriangulation.j0]
    by_cases h2 : 3 ≤ wrap64 (Int.tdiv (wrap64 (3 * (t.length : Int))) 2) ∧ wrap64 (Int.tdiv (wrap64 (3 * (t.length : Int))) 2) ≤ 9
    · obtain ⟨n, hn⟩ : ∃ n : Int, wrap64 (Int.tdiv (wrap64 (3 * (t.length : Int))) 2) = n := ⟨_, rfl⟩
      rw [hn] at h2 ⊢
      rw [if_neg (by simpa using h2), if_pos (show (t.length : Int) % 2 = 0 ∧ 3 ≤ n ∧ n ≤ 9 from ⟨h1, h2⟩), w_id (a := 2 * n) (by omega) (by omega), w_id (a := 2 * n + 1) (by omega) (by omega), if_pos (by omega), if_pos (by omega)]
      have := spec_tri_l0 t ht n h2 t.length 0 k _ [] (Marks.made (by omega)) (by omega) (by omega)
      rw [List.drop_zero] at this
      exact this
    · rw [if_pos (by rw [decide_eq_false h2]; rfl), if_neg (fun h => h2 h.2)]
  · rw [if_neg h1]
    simp only [spec_IsTriangulation.j0]
    rw [if_pos trivial, if_neg (fun h => h1 h.1)]
theorem impl_isT (t : List (List Int)) (ht : t.length ≤ 1048576) (k : Nat) (hk : 6000000 < k) : impl_IsTriangulation.f k t = some (isT t) := impl_isT' t (by omega) k hk
theorem spec_isT (t : List (List Int)) (ht : t.length ≤ 1048576) (k : Nat) (hk : 6000000 < k) : spec_IsTriangulation.f k t = some (isT t) := spec_isT' t (by omega) k hk
end Go.Proofs.Ytjmhcbilefnhdaa.L


namespace Go.Proofs.Ytjmhcbilefnhdaa.L
open Go.RowKit Go.Proofs.Ytjmhcbilefnhdaa.P Go.Proofs.Ytjmhcbilefnhdaa.Help Go.Proofs.YtjmhcbilefnhdaaW.PrintWords
set_option linter.unusedVariables false
set_option linter.unusedSimpArgs false

theorem rowR_some {n : Int} : ∀ {r seen s : List Int}, rowR n seen r = some s → (∀ x ∈ r, x ≠ 0 ∧ -n ≤ x ∧ x ≤ n) ∧ r.Nodup ∧ (∀ x ∈ r, x ∉ seen) ∧ ∀ x, x ∈ s ↔ x ∈ r ∨ x ∈ seen
  | [], seen, s, h => by
    have e : seen = s := Option.some.inj h
    subst e
    simp
  | y :: ys, seen, s, h => by
    rw [rowR] at h
    by_cases c : y ≠ 0 ∧ (-n ≤ y ∧ y ≤ n) ∧ y ∉ seen
    · rw [if_pos c] at h
      obtain ⟨h1, h2, h3, h4⟩ := rowR_some h
      refine ⟨fun x hx => ?_, List.nodup_cons.2 ⟨fun hy => h3 y hy List.mem_cons_self, h2⟩, fun x hx hs => ?_, fun x => ?_⟩
      · rcases List.mem_cons.1 hx with rfl | hx
        · exact ⟨c.1, c.2.1⟩
        · exact h1 x hx
      · rcases List.mem_cons.1 hx with rfl | hx
        · exact c.2.2 hs
        · exact h3 x hx (List.mem_cons_of_mem _ hs)
      · rw [h4 x, List.mem_cons, List.mem_cons]
        constructor
        · rintro (h | h | h)
          · exact .inl (.inr h)
          · exact .inl (.inl h)
          · exact .inr h
        · rintro ((h | h) | h)
          · exact .inr (.inl h)
          · exact .inl h
          · exact .inr (.inr h)
    · rw [if_neg c] at h
      exact absurd h (by simp)
theorem triR_true {n : Int} : ∀ {rows : List (List Int)} {seen : List Int}, triR n seen rows = true → (∀ r ∈ rows, r.length = 3) ∧ (∀ x ∈ rows.flatten, x ≠ 0 ∧ -n ≤ x ∧ x ≤ n) ∧ rows.flatten.Nodup ∧ ∀ x ∈ rows.flatten, x ∉ seen
  | [], seen, _ => by simp
  | r :: rs, seen, h => by
    rw [triR] at h
    by_cases c : r.length = 3
    · rw [if_pos c] at h
      cases hr : rowR n seen r with
      | none => rw [hr] at h; exact absurd h (by simp)
      | some s =>
        rw [hr] at h
        obtain ⟨h1, h2, h3, h4⟩ := rowR_some hr
        obtain ⟨g1, g2, g3, g4⟩ := triR_true (show triR n s rs = true from h)
        refine ⟨fun x hx => ?_, fun x hx => ?_, ?_, fun x hx hs => ?_⟩
        · rcases List.mem_cons.1 hx with rfl | hx
          · exact c
          · exact g1 x hx
        · rw [List.flatten_cons, List.mem_append] at hx
          rcases hx with hx | hx
          · exact h1 x hx
          · exact g2 x hx
        · rw [List.flatten_cons]
          refine List.nodup_append.2 ⟨h2, g3, fun a ha b hb e => ?_⟩
          subst e
          exact g4 a hb ((h4 a).2 (.inl ha))
        · rw [List.flatten_cons, List.mem_append] at hx
          rcases hx with hx | hx
          · exact h3 x hx hs
          · exact g4 x hx ((h4 x).2 (.inr hs))
    · rw [if_neg c] at h
      exact absurd h (by simp)
/-- A triangulation with n edges. -/
structure TriOk (t : List (List Int)) (n : Int) : Prop where
  n3 : 3 ≤ n
  n9 : n ≤ 9
  len : 3 * (t.length : Int) = 2 * n
  row : ∀ r ∈ t, r.length = 3
  inr : ∀ x ∈ t.flatten, x ≠ 0 ∧ -n ≤ x ∧ x ≤ n
  nodup : t.flatten.Nodup
theorem edges_eq {t : List (List Int)} (ht : t.length ≤ 1048600) : edges t = 3 * (t.length : Int) / 2 := by
  unfold edges
  rw [w_id (a := 3 * (t.length : Int)) (by omega) (by omega), Int.tdiv_eq_ediv_of_nonneg (by omega), w_id (by omega) (by omega)]
theorem isT_ok' {t : List (List Int)} (ht : t.length ≤ 1048600) (h : isT t = true) : TriOk t (edges t) := by
  unfold isT at h
  by_cases c : (t.length : Int) % 2 = 0 ∧ 3 ≤ edges t ∧ edges t ≤ 9
  · rw [if_pos c] at h
    obtain ⟨h1, h2, h3, _⟩ := triR_true h
    have e := edges_eq ht
    exact ⟨c.2.1, c.2.2, by omega, h1, h2, h3⟩
  · rw [if_neg c] at h
    exact absurd h (by simp)
theorem isT_ok {t : List (List Int)} (ht : t.length ≤ 1048576) (h : isT t = true) : TriOk t (edges t) := isT_ok' (by omega) h
theorem TriOk.short {t : List (List Int)} {n : Int} (h : TriOk t n) : t.length ≤ 6 ∧ 2 ≤ t.length := by
  have := h.n3
  have := h.n9
  have := h.len
  omega
theorem TriOk.at {t : List (List Int)} {n : Int} (h : TriOk t n) {i j : Nat} (hi : i < t.length) (hj : j < t[i].length) : t[i][j] ≠ 0 ∧ -n ≤ t[i][j] ∧ t[i][j] ≤ n :=
  h.inr _ (List.mem_flatten.2 ⟨t[i], List.getElem_mem hi, List.getElem_mem hj⟩)
theorem TriOk.three {t : List (List Int)} {n : Int} (h : TriOk t n) {i : Nat} (hi : i < t.length) : t[i].length = 3 := h.row _ (List.getElem_mem hi)
theorem TriOk.i64 {t : List (List Int)} {n : Int} (h : TriOk t n) {r : List Int} (hr : r ∈ t) : ∃ a b c, r = [a, b, c] ∧ (a ≠ 0 ∧ -n ≤ a ∧ a ≤ n) ∧ (b ≠ 0 ∧ -n ≤ b ∧ b ≤ n) ∧ (c ≠ 0 ∧ -n ≤ c ∧ c ≤ n) := by
  have hl := h.row r hr
  match r, hl with
  | [a, b, c], _ =>
    exact ⟨a, b, c, rfl, h.inr _ (List.mem_flatten.2 ⟨_, hr, by simp⟩), h.inr _ (List.mem_flatten.2 ⟨_, hr, by simp⟩), h.inr _ (List.mem_flatten.2 ⟨_, hr, by simp⟩)⟩
end Go.Proofs.Ytjmhcbilefnhdaa.L

namespace Go.Proofs.Ytjmhcbilefnhdaa.L
open Go.RowKit Go.Proofs.Ytjmhcbilefnhdaa.P Go.Proofs.Ytjmhcbilefnhdaa.Help Go.Proofs.YtjmhcbilefnhdaaW.PrintWords
set_option linter.unusedVariables false
set_option linter.unusedSimpArgs false

/-- The first place of a number. -/
def idx (x : Int) : List Int → Int → Int
  | [], _ => -1
  | y :: ys, j => if y = x then j else idx x ys (j + 1)
def sideR (x : Int) : List (List Int) → Int → Int × Int
  | [], _ => (-1, -1)
  | r :: rs, i => if 0 ≤ idx x r 0 then (i, idx x r 0) else sideR x rs (i + 1)
theorem idx_bd (x : Int) : ∀ (ys : List Int) (j : Int), 0 ≤ j → idx x ys j = -1 ∨ (j ≤ idx x ys j ∧ idx x ys j < j + ys.length)
  | [], j, _ => .inl rfl
  | y :: ys, j, hj => by
    rw [idx, List.length_cons]
    split
    · exact .inr (by omega)
    · rcases idx_bd x ys (j + 1) (by omega) with h | h
      · exact .inl h
      · exact .inr (by omega)
theorem idx_hit (x : Int) : ∀ (ys : List Int) (j : Int), 0 ≤ j → x ∈ ys → j ≤ idx x ys j ∧ idx x ys j < j + ys.length
  | [], j, _, h => absurd h (by simp)
  | y :: ys, j, hj, h => by
    rw [idx, List.length_cons]
    by_cases e : y = x
    · rw [if_pos e]; omega
    · rw [if_neg e]
      have := idx_hit x ys (j + 1) (by omega) (by
        rcases List.mem_cons.1 h with h | h
        · exact absurd h.symm e
        · exact h)
      omega
theorem idx_at (x : Int) : ∀ (ys : List Int) (j : Int), 0 ≤ j → 0 ≤ idx x ys j → ys[(idx x ys j - j).toNat]? = some x
  | [], j, _, h => absurd h (by simp [idx])
  | y :: ys, j, hj, h => by
    rw [idx] at h ⊢
    by_cases e : y = x
    · rw [if_pos e]
      simp [e]
    · rw [if_neg e] at h ⊢
      have ih := idx_at x ys (j + 1) (by omega) h
      rcases idx_bd x ys (j + 1) (by omega) with h2 | h2
      · omega
      · rw [show (idx x ys (j + 1) - j).toNat = (idx x ys (j + 1) - (j + 1)).toNat + 1 by omega, List.getElem?_cons_succ]
        exact ih
theorem indexOf_l0 (x : Int) (xs : List Int) (hx : xs.length ≤ 1000000000000) : ∀ (d k j : Nat), j + d = xs.length → d < k → impl_indexOf.l0 k x xs (xs.length : Int) (j : Int) = some (idx x (xs.drop j) (j : Int)) := by
  intro d
  induction d with
  | zero =>
    intro k j hj hk
    obtain ⟨k, rfl⟩ : ∃ m, k = m + 1 := ⟨k - 1, by omega⟩
    simp only [impl_indexOf.l0]
    rw [if_neg (by omega), List.drop_of_length_le (by omega)]
    rfl
  | succ d ih =>
    intro k j hj hk
    obtain ⟨k, rfl⟩ : ∃ m, k = m + 1 := ⟨k - 1, by omega⟩
    have hlt : j < xs.length := by omega
    simp only [impl_indexOf.l0]
    rw [if_pos (by omega), if_pos (by omega), if_pos (by omega), rd_nat xs j hlt, List.drop_eq_getElem_cons hlt, idx]
    by_cases e : xs[j] = x
    · rw [if_pos e, if_pos e]
    · rw [if_neg e, if_neg e, w_id (by omega) (by omega), show ((j : Int) + 1) = ((j + 1 : Nat) : Int) by omega, ih k (j + 1) (by omega) (by omega)]
theorem indexOf_f (x : Int) (xs : List Int) (hx : xs.length ≤ 1000000000000) (k : Nat) (hk : xs.length < k) : impl_indexOf.f k xs x = some (idx x xs 0) := by
  unfold impl_indexOf.f
  have := indexOf_l0 x xs hx xs.length k 0 (by omega) hk
  rw [List.drop_zero] at this
  exact this
theorem sideAt_l0 (x : Int) (t : List (List Int)) (ht : t.length ≤ 1048576) (hr : ∀ r ∈ t, r.length ≤ 1048576) : ∀ (d k i : Nat), i + d = t.length → d + 1048577 < k → impl_sideAt.l0 k x t (t.length : Int) (i : Int) = some (sideR x (t.drop i) (i : Int)) := by
  intro d
  induction d with
  | zero =>
    intro k i hi hk
    obtain ⟨k, rfl⟩ : ∃ m, k = m + 1 := ⟨k - 1, by omega⟩
    simp only [impl_sideAt.l0]
    rw [if_neg (by omega), List.drop_of_length_le (by omega)]
    rfl
  | succ d ih =>
    intro k i hi hk
    obtain ⟨k, rfl⟩ : ∃ m, k = m + 1 := ⟨k - 1, by omega⟩
    have hlt : i < t.length := by omega
    have hl := hr _ (List.getElem_mem hlt)
    simp only [impl_sideAt.l0]
    rw [if_pos (by omega), if_pos (by omega), if_pos (by omega), rdL_nat t i hlt, indexOf_f x _ (by omega) k (by omega), Option.bind_some, List.drop_eq_getElem_cons hlt, sideR]
    by_cases e : 0 ≤ idx x t[i] 0
    · rw [if_pos e, if_pos e]
    · rw [if_neg e, if_neg e, w_id (by omega) (by omega), show ((i : Int) + 1) = ((i + 1 : Nat) : Int) by omega, ih k (i + 1) (by omega) (by omega)]
theorem sideAt_f (x : Int) (t : List (List Int)) (ht : t.length ≤ 1048576) (hr : ∀ r ∈ t, r.length ≤ 1048576) (k : Nat) (hk : 3000000 < k) : impl_sideAt.f k t x = some (sideR x t 0) := by
  unfold impl_sideAt.f
  have := sideAt_l0 x t ht hr t.length k 0 (by omega) (by omega)
  rw [List.drop_zero] at this
  exact this
end Go.Proofs.Ytjmhcbilefnhdaa.L

namespace Go.Proofs.Ytjmhcbilefnhdaa.L
open Go.RowKit Go.Proofs.Ytjmhcbilefnhdaa.P Go.Proofs.Ytjmhcbilefnhdaa.Help Go.Proofs.YtjmhcbilefnhdaaW.PrintWords
set_option linter.unusedVariables false
set_option linter.unusedSimpArgs false

theorem getD_at {α : Type} {l : List α} (d : α) {i : Nat} (h : i < l.length) : l.getD i d = l[i] := by
  rw [List.getD_eq_getElem?_getD, List.getElem?_eq_getElem h, Option.getD_some]
/-- The letter of a side, the sides counted on from the last to the first. -/
def sideOf (t : List (List Int)) (i : Nat) (j : Nat) : Int := (t.getD i []).getD (j % 3) 0
theorem sideOf_in {t : List (List Int)} {n : Int} (ok : TriOk t n) {i : Nat} (hi : i < t.length) (j : Nat) : sideOf t i j ≠ 0 ∧ -n ≤ sideOf t i j ∧ sideOf t i j ≤ n := by
  have h3 := ok.three hi
  have hj : j % 3 < t[i].length := by omega
  have := ok.at hi hj
  unfold sideOf
  rw [getD_at _ hi, getD_at _ hj]
  exact this
theorem sideOf_eq {t : List (List Int)} {i : Nat} (hi : i < t.length) {a b c : Int} (e : t[i] = [a, b, c]) : sideOf t i 0 = a ∧ sideOf t i 1 = b ∧ sideOf t i 2 = c ∧ sideOf t i 3 = a ∧ sideOf t i 4 = b := by
  unfold sideOf
  rw [getD_at _ hi, e]
  exact ⟨rfl, rfl, rfl, rfl, rfl⟩
theorem flat3 : ∀ {t : List (List Int)}, (∀ r ∈ t, r.length = 3) → t.flatten.length = 3 * t.length
  | [], _ => rfl
  | r :: rs, h => by
    rw [List.flatten_cons, List.length_append, h r List.mem_cons_self, flat3 (fun x hx => h x (List.mem_cons_of_mem _ hx)), List.length_cons]
    omega
/-- All letters and inverses. -/
def letters (n : Nat) : List Int := (List.range n).map (fun (k : Nat) => (k : Int) + 1) ++ (List.range n).map (fun (k : Nat) => -(k : Int) - 1)
theorem mem_letters {n : Nat} {x : Int} (h0 : x ≠ 0) (h1 : -(n : Int) ≤ x) (h2 : x ≤ n) : x ∈ letters n := by
  unfold letters
  rw [List.mem_append, List.mem_map, List.mem_map]
  by_cases h : 0 < x
  · exact .inl ⟨(x - 1).toNat, List.mem_range.2 (by omega), by omega⟩
  · exact .inr ⟨(-x - 1).toNat, List.mem_range.2 (by omega), by omega⟩
theorem TriOk.all {t : List (List Int)} {n : Int} (ok : TriOk t n) {x : Int} (h0 : x ≠ 0) (h1 : -n ≤ x) (h2 : x ≤ n) : x ∈ t.flatten := by
  apply Classical.byContradiction
  intro hc
  have n3 := ok.n3
  obtain ⟨m, rfl⟩ : ∃ m : Nat, n = m := ⟨n.toNat, by omega⟩
  have hx := mem_letters h0 h1 h2
  have hs : ∀ y, y ∈ t.flatten → y ∈ (letters m).erase x := by
    intro y hy
    have hb := ok.inr y hy
    exact (List.mem_erase_of_ne (fun e => hc (by rw [← e]; exact hy))).2 (mem_letters hb.1 hb.2.1 hb.2.2)
  have hl := List.Nodup.length_le_of_subset ok.nodup hs
  rw [List.length_erase_of_mem hx, flat3 ok.row] at hl
  have : (letters m).length = 2 * m := by unfold letters; simp; omega
  have := ok.len
  omega
theorem sideR_at (x : Int) : ∀ (rs : List (List Int)) (b : Int), 0 ≤ b → x ∈ rs.flatten → ∃ i j : Nat, i < rs.length ∧ ∃ h : i < rs.length, j < rs[i].length ∧ rs[i][j]? = some x ∧ sideR x rs b = (b + i, (j : Int))
  | [], b, _, h => absurd h (by simp)
  | r :: rs, b, hb, h => by
    rw [sideR]
    by_cases hr : 0 ≤ idx x r 0
    · have h1 := idx_at x r 0 (by omega) hr
      have h2 := idx_bd x r 0 (by omega)
      rw [if_pos hr]
      refine ⟨0, (idx x r 0).toNat, by simp, by simp, ?_, ?_, ?_⟩
      · show (idx x r 0).toNat < r.length
        omega
      · show r[(idx x r 0).toNat]? = some x
        rw [Int.sub_zero] at h1
        exact h1
      · have e : ((idx x r 0).toNat : Int) = idx x r 0 := by omega
        rw [e]
        simp
    · rw [if_neg hr]
      rw [List.flatten_cons, List.mem_append] at h
      rcases h with h | h
      · have := idx_hit x r 0 (by omega) h
        exact absurd this.1 hr
      · obtain ⟨i, j, hi, hi', hj, he, hs⟩ := sideR_at x rs (b + 1) (by omega) h
        refine ⟨i + 1, j, by simpa using hi, by simpa using hi, ?_, ?_, ?_⟩
        · simpa using hj
        · simpa using he
        · rw [hs]
          refine Prod.ext ?_ rfl
          show b + 1 + (i : Int) = b + ((i + 1 : Nat) : Int)
          omega
/-- Where a letter stands. -/
theorem TriOk.side {t : List (List Int)} {n : Int} (ok : TriOk t n) {x : Int} (h0 : x ≠ 0) (h1 : -n ≤ x) (h2 : x ≤ n) : ∃ i j : Nat, i < t.length ∧ j < 3 ∧ sideR x t 0 = ((i : Int), (j : Int)) ∧ sideOf t i j = x := by
  obtain ⟨i, j, hi, _, hj, he, hs⟩ := sideR_at x t 0 (by omega) (ok.all h0 h1 h2)
  have h3 := ok.three hi
  refine ⟨i, j, hi, by omega, by rw [hs, Int.zero_add], ?_⟩
  unfold sideOf
  rw [getD_at _ hi, List.getD_eq_getElem?_getD, Nat.mod_eq_of_lt (by omega), he]
  rfl
theorem rd_side {t : List (List Int)} {n : Int} (ok : TriOk t n) {i : Nat} (hi : i < t.length) (j : Nat) : rd (rd_L1 t (i : Int)) (Int.tmod (j : Int) 3) = sideOf t i j := by
  have h3 := ok.three hi
  rw [rdL_nat t i hi, Int.tmod_eq_emod_of_nonneg (by omega), show ((j : Int) % 3) = ((j % 3 : Nat) : Int) by omega, rd_nat _ _ (by omega)]
  unfold sideOf
  rw [getD_at _ hi, getD_at _ (by omega)]
end Go.Proofs.Ytjmhcbilefnhdaa.L

namespace Go.Proofs.Ytjmhcbilefnhdaa.L
open Go.RowKit Go.Proofs.Ytjmhcbilefnhdaa.P Go.Proofs.Ytjmhcbilefnhdaa.Help Go.Proofs.YtjmhcbilefnhdaaW.PrintWords
set_option linter.unusedVariables false
set_option linter.unusedSimpArgs false

theorem l3Abs_eq {a : Int} (h0 : -9223372036854775807 ≤ a) (h1 : a ≤ 9223372036854775807) : spec_l3Abs.f a = some (a.natAbs : Int) := by
  unfold spec_l3Abs.f spec_l1Max.f
  rw [w_id (by omega) (by omega)]
  by_cases h : a > -a
  · rw [if_pos h]; simp only [Option.bind_some]; congr 1; omega
  · rw [if_neg h]; simp only [Option.bind_some]; congr 1; omega
end Go.Proofs.Ytjmhcbilefnhdaa.L

namespace Go.Proofs.Ytjmhcbilefnhdaa.L
open Go.RowKit Go.Proofs.Ytjmhcbilefnhdaa.P Go.Proofs.Ytjmhcbilefnhdaa.Help Go.Proofs.YtjmhcbilefnhdaaW.PrintWords
set_option linter.unusedVariables false
set_option linter.unusedSimpArgs false

theorem bit_eq (b : Bool) : spec_l1Bit.f b = some (if b = true then 1 else 0) := by
  unfold spec_l1Bit.f
  split <;> rfl
theorem rd_at {t : List (List Int)} {n : Int} (ok : TriOk t n) {i : Nat} (hi : i < t.length) {j : Nat} (hj : j < 3) : rd (rd_L1 t (i : Int)) (j : Int) = sideOf t i j := by
  have := rd_side ok hi j
  rwa [Int.tmod_eq_emod_of_nonneg (by omega), show (j : Int) % 3 = (j : Int) by omega] at this
theorem sideOf_mod (t : List (List Int)) (i j : Nat) : sideOf t i (j % 3) = sideOf t i j := by
  unfold sideOf
  rw [Nat.mod_mod]
theorem flat_at : ∀ {t : List (List Int)}, (∀ r ∈ t, r.length = 3) → ∀ {i j : Nat}, i < t.length → j < 3 → t.flatten[3 * i + j]? = some (sideOf t i j)
  | [], _, i, j, hi, _ => absurd hi (by simp)
  | r :: rs, h, 0, j, hi, hj => by
    have hl := h r List.mem_cons_self
    rw [List.flatten_cons, List.getElem?_append_left (by omega), List.getElem?_eq_getElem (by omega)]
    unfold sideOf
    rw [List.getD_cons_zero, List.getD_eq_getElem?_getD, List.getElem?_eq_getElem (show j % 3 < r.length by omega), Option.getD_some]
    congr 1
    congr 1
    omega
  | r :: rs, h, i + 1, j, hi, hj => by
    have hl := h r List.mem_cons_self
    have ih := flat_at (t := rs) (fun x hx => h x (List.mem_cons_of_mem _ hx)) (i := i) (j := j) (by simpa using hi) hj
    rw [List.flatten_cons, List.getElem?_append_right (by omega), show 3 * (i + 1) + j - r.length = 3 * i + j by omega, ih]
    rfl
/-- A letter stands at one place only. -/
theorem side_inj {t : List (List Int)} {n : Int} (ok : TriOk t n) {i j k l : Nat} (hi : i < t.length) (hj : j < 3) (hk : k < t.length) (hl : l < 3) (e : sideOf t i j = sideOf t k l) : i = k ∧ j = l := by
  have a := flat_at ok.row hi hj
  have b := flat_at ok.row hk hl
  rw [e] at a
  obtain ⟨a1, a2⟩ := List.getElem?_eq_some_iff.1 a
  obtain ⟨b1, b2⟩ := List.getElem?_eq_some_iff.1 b
  have hp := List.pairwise_iff_getElem.1 ok.nodup
  rcases Nat.lt_trichotomy (3 * i + j) (3 * k + l) with h | h | h
  · exact absurd (a2.trans b2.symm) (hp _ _ a1 b1 h)
  · omega
  · exact absurd (b2.trans a2.symm) (hp _ _ b1 a1 h)
theorem side_at {t : List (List Int)} {n : Int} (ok : TriOk t n) {i j : Nat} (hi : i < t.length) (hj : j < 3) : sideR (sideOf t i j) t 0 = ((i : Int), (j : Int)) := by
  have hs := sideOf_in ok hi j
  obtain ⟨o, a, ho, ha, h1, h2⟩ := ok.side hs.1 hs.2.1 hs.2.2
  obtain ⟨rfl, rfl⟩ := side_inj ok ho ha hi hj h2
  exact h1
/-- Corners, and the beginnings and ends of edges. -/
def cor (i j : Nat) : Int := 3 * (i : Int) + ((j % 3 : Nat) : Int)
def Bg (s : Int) : Int := 2 * (s.natAbs : Int) + (if s < 0 then 1 else 0)
def En (s : Int) : Int := 2 * (s.natAbs : Int) + (if s > 0 then 1 else 0)
theorem En_neg {s : Int} (h : s ≠ 0) : En s = Bg (-s) := by
  unfold En Bg
  rw [Int.natAbs_neg]
  split <;> split <;> omega
/-- The place of the inverse of a side. -/
def opp (t : List (List Int)) (i j : Nat) : Nat × Nat := ((sideR (-(sideOf t i j)) t 0).1.toNat, (sideR (-(sideOf t i j)) t 0).2.toNat)
theorem opp_at {t : List (List Int)} {n : Int} (ok : TriOk t n) {i : Nat} (hi : i < t.length) (j : Nat) : (opp t i j).1 < t.length ∧ (opp t i j).2 < 3 ∧ sideOf t (opp t i j).1 (opp t i j).2 = -(sideOf t i j) ∧ sideR (-(sideOf t i j)) t 0 = (((opp t i j).1 : Int), ((opp t i j).2 : Int)) := by
  have hs := sideOf_in ok hi j
  obtain ⟨o, a, ho, ha, h1, h2⟩ := ok.side (x := -(sideOf t i j)) (by omega) (by omega) (by omega)
  unfold opp
  rw [h1]
  exact ⟨ho, ha, h2, rfl⟩
def vp (t : List (List Int)) (i j : Nat) : List (Int × Int) := [(cor i j, cor (opp t i j).1 ((opp t i j).2 + 1)), (cor i (j + 1), cor (opp t i j).1 (opp t i j).2)]
def ep (t : List (List Int)) (i j : Nat) : List (Int × Int) := [(En (sideOf t i j), Bg (sideOf t i (j + 1)))]
theorem cor_bd {t : List (List Int)} {i : Nat} (hi : i < t.length) (j : Nat) : 0 ≤ cor i j ∧ cor i j < 3 * (t.length : Int) := by
  unfold cor
  omega
theorem Bg_bd {t : List (List Int)} {n : Int} (ok : TriOk t n) {i : Nat} (hi : i < t.length) (j : Nat) : 0 ≤ Bg (sideOf t i j) ∧ Bg (sideOf t i j) < 3 * (t.length : Int) + 2 := by
  have hs := sideOf_in ok hi j
  have := ok.len
  unfold Bg
  split <;> omega
theorem En_bd {t : List (List Int)} {n : Int} (ok : TriOk t n) {i : Nat} (hi : i < t.length) (j : Nat) : 0 ≤ En (sideOf t i j) ∧ En (sideOf t i j) < 3 * (t.length : Int) + 2 := by
  have hs := sideOf_in ok hi j
  have := ok.len
  unfold En
  split <;> omega
theorem tmod3 (m : Nat) : Int.tmod (m : Int) 3 = ((m % 3 : Nat) : Int) := by
  rw [Int.tmod_eq_emod_of_nonneg (by omega)]
  omega
theorem w_n {a : Int} {m : Nat} (h : a = (m : Int)) (hm : m ≤ 1000000) : wrap64 a = (m : Int) := by
  rw [h]
  exact w_id (by omega) (by omega)
theorem vert_l1 {t : List (List Int)} {n : Int} (ok : TriOk t n) (ht : t.length ≤ 1048576) (hr : ∀ r ∈ t, r.length ≤ 1048576) {i : Nat} (hi : i < t.length) : ∀ (d j k : Nat) (xs : List Int) (ps : List (Int × Int)), j + d = 3 → 3000100 + d < k → UF.Stands xs (3 * (t.length : Int)) ps →
    ∃ ys, impl_vertices.l1 k t xs (i : Int) (j : Int) = impl_vertices.l0 (k - d - 1) t ys ((i + 1 : Nat) : Int) ∧ UF.Stands ys (3 * (t.length : Int)) (ps ++ rowG (vp t) i d j) := by
  have h3 := ok.three hi
  have hs := ok.short
  have hl : ((rd_L1 t (i : Int)).length : Int) = 3 := by rw [rdL_nat t i hi, h3]; rfl
  intro d
  induction d with
  | zero =>
    intro j k xs ps hj hk h
    obtain ⟨k, rfl⟩ : ∃ m, k = m + 1 := ⟨k - 1, by omega⟩
    refine ⟨xs, ?_, by simpa [rowG] using h⟩
    simp only [impl_vertices.l1]
    rw [hl, if_neg (by omega), w_n (m := i + 1) (by omega) (by omega)]
    rfl
  | succ d ih =>
    intro j k xs ps hj hk h
    obtain ⟨k, rfl⟩ : ∃ m, k = m + 1 := ⟨k - 1, by omega⟩
    have hn := h.len
    have hs1 := sideOf_in ok hi j
    have n9 := ok.n9
    obtain ⟨o1, o2, o3, o4⟩ := opp_at ok hi j
    obtain ⟨ys, e1, S1⟩ := join_f h (a := cor i j) (b := cor (opp t i j).1 ((opp t i j).2 + 1)) (cor_bd hi j) (cor_bd o1 _) (m := k) (by omega)
    have hn1 := S1.len
    obtain ⟨zs, e2, S2⟩ := join_f S1 (a := cor i (j + 1)) (b := cor (opp t i j).1 (opp t i j).2) (cor_bd hi _) (cor_bd o1 _) (m := k) (by omega)
    obtain ⟨us, e3, S3⟩ := ih (j + 1) k zs _ (by omega) (by omega) S2
    refine ⟨us, ?_, ?_⟩
    · simp only [impl_vertices.l1]
      rw [hl, if_pos (by omega), if_pos (by omega), rd_at ok hi (by omega), w_id (a := -(sideOf t i j)) (by omega) (by omega), sideAt_f _ t ht hr k (by omega), Option.bind_some, o4]
      dsimp only
      rw [show wrap64 (3 * (i : Int)) = ((3 * i : Nat) : Int) from w_n (by omega) (by omega), show wrap64 (3 * ((opp t i j).1 : Int)) = ((3 * (opp t i j).1 : Nat) : Int) from w_n (by omega) (by omega),
        show wrap64 (((opp t i j).2 : Int) + 1) = (((opp t i j).2 + 1 : Nat) : Int) from w_n (by omega) (by omega), show wrap64 ((j : Int) + 1) = ((j + 1 : Nat) : Int) from w_n (by omega) (by omega), tmod3, tmod3,
        show wrap64 (((3 * i : Nat) : Int) + (j : Int)) = cor i j from by rw [w_n (m := 3 * i + j) (by omega) (by omega)]; unfold cor; omega,
        show wrap64 (((3 * (opp t i j).1 : Nat) : Int) + (((((opp t i j).2 + 1) % 3 : Nat)) : Int)) = cor (opp t i j).1 ((opp t i j).2 + 1) from by rw [w_n (m := 3 * (opp t i j).1 + ((opp t i j).2 + 1) % 3) (by omega) (by omega)]; unfold cor; omega,
        e1, Option.bind_some,
        show wrap64 (((3 * i : Nat) : Int) + ((((j + 1) % 3 : Nat)) : Int)) = cor i (j + 1) from by rw [w_n (m := 3 * i + (j + 1) % 3) (by omega) (by omega)]; unfold cor; omega,
        show wrap64 (((3 * (opp t i j).1 : Nat) : Int) + ((opp t i j).2 : Int)) = cor (opp t i j).1 (opp t i j).2 from by rw [w_n (m := 3 * (opp t i j).1 + (opp t i j).2) (by omega) (by omega)]; unfold cor; omega,
        e2, Option.bind_some, e3, show k + 1 - (d + 1) - 1 = k - d - 1 by omega]
    · rw [rowG, show vp t i j = [(cor i j, cor (opp t i j).1 ((opp t i j).2 + 1)), (cor i (j + 1), cor (opp t i j).1 (opp t i j).2)] from rfl]
      simpa [List.append_assoc] using S3
theorem vert_l0 {t : List (List Int)} {n : Int} (ok : TriOk t n) (ht : t.length ≤ 1048576) (hr : ∀ r ∈ t, r.length ≤ 1048576) : ∀ (d i k : Nat) (xs : List Int) (ps : List (Int × Int)), i + d = t.length → 3000200 + 5 * d < k → UF.Stands xs (3 * (t.length : Int)) ps →
    ∃ ys, impl_vertices.l0 k t xs (i : Int) = some ys ∧ UF.Stands ys (3 * (t.length : Int)) (ps ++ allG (vp t) d i) := by
  intro d
  induction d with
  | zero =>
    intro i k xs ps hi hk h
    obtain ⟨k, rfl⟩ : ∃ m, k = m + 1 := ⟨k - 1, by omega⟩
    refine ⟨xs, ?_, by simpa [allG] using h⟩
    simp only [impl_vertices.l0]
    rw [if_neg (by omega)]
  | succ d ih =>
    intro i k xs ps hi hk h
    obtain ⟨k, rfl⟩ : ∃ m, k = m + 1 := ⟨k - 1, by omega⟩
    obtain ⟨ys, e1, S1⟩ := vert_l1 ok ht hr (i := i) (by omega) 3 0 k xs ps (by omega) (by omega) h
    obtain ⟨zs, e2, S2⟩ := ih (i + 1) (k - 3 - 1) ys _ (by omega) (by omega) S1
    refine ⟨zs, ?_, by rw [allG, ← List.append_assoc]; exact S2⟩
    simp only [impl_vertices.l0]
    rw [if_pos (by omega), if_pos (by omega)]
    have e1' : impl_vertices.l1 k t xs (i : Int) 0 = impl_vertices.l0 (k - 3 - 1) t ys ((i + 1 : Nat) : Int) := e1
    rw [e1', e2]
theorem vert_f {t : List (List Int)} {n : Int} (ok : TriOk t n) (ht : t.length ≤ 1048576) (hr : ∀ r ∈ t, r.length ≤ 1048576) (k : Nat) (hk : 3000300 < k) : ∃ ys, impl_vertices.f k t = some ys ∧ UF.Stands ys (3 * (t.length : Int)) (allG (vp t) t.length 0) := by
  have hs := ok.short
  have h0 := UF.alone_stands (3 * t.length)
  have e0 : (((3 * t.length : Nat)) : Int) = 3 * (t.length : Int) := by omega
  rw [e0] at h0
  obtain ⟨ys, e, S⟩ := vert_l0 ok ht hr t.length 0 k _ [] (by omega) (by omega) h0
  refine ⟨ys, ?_, by simpa using S⟩
  unfold impl_vertices.f
  rw [show wrap64 (3 * (t.length : Int)) = ((3 * t.length : Nat) : Int) from w_n (by omega) (by omega), newJoiner_f _ (by omega) k (by omega), Option.bind_some]
  exact e
theorem ends_l2 {t : List (List Int)} {n : Int} (ok : TriOk t n) {i : Nat} (hi : i < t.length) : ∀ (d j k : Nat) (xs : List Int) (ps : List (Int × Int)), j + d = 3 → 100 + d < k → UF.Stands xs (3 * (t.length : Int) + 2) ps →
    ∃ ys, spec_l15Ends.l2 k t xs (i : Int) (j : Int) = spec_l15Ends.l1 (k - d - 1) t ys ((i + 1 : Nat) : Int) ∧ UF.Stands ys (3 * (t.length : Int) + 2) (ps ++ rowG (ep t) i d j) := by
  have h3 := ok.three hi
  have hs := ok.short
  have hl : ((rd_L1 t (i : Int)).length : Int) = 3 := by rw [rdL_nat t i hi, h3]; rfl
  intro d
  induction d with
  | zero =>
    intro j k xs ps hj hk h
    obtain ⟨k, rfl⟩ : ∃ m, k = m + 1 := ⟨k - 1, by omega⟩
    refine ⟨xs, ?_, by simpa [rowG] using h⟩
    simp only [spec_l15Ends.l2]
    rw [if_neg (by omega), w_n (m := i + 1) (by omega) (by omega)]
    rfl
  | succ d ih =>
    intro j k xs ps hj hk h
    obtain ⟨k, rfl⟩ : ∃ m, k = m + 1 := ⟨k - 1, by omega⟩
    have hn := h.len
    have a1 := sideOf_in ok hi j
    have a2 := sideOf_in ok hi (j + 1)
    have n9 := ok.n9
    have b1 := En_bd ok hi j
    have b2 := Bg_bd ok hi (j + 1)
    have r1 := h.ok.rt b1.1 (by omega)
    have r2 := h.ok.rt b2.1 (by omega)
    have c1 := h.ok.bd r1 b1.1 (by omega)
    have J := (h.join b1 b2 r1 r2).1
    obtain ⟨us, e3, S3⟩ := ih (j + 1) k _ _ (by omega) (by omega) J
    refine ⟨us, ?_, ?_⟩
    · have x1 : (j : Int) < 3 := by omega
      have x2 : (0 : Int) ≤ (i : Int) := by omega
      have x3 : (i : Int) < (t.length : Int) := by omega
      have x4 : (0 : Int) ≤ (j : Int) := by omega
      have x5 : j < 3 := by omega
      have x6 : k + 1 - (d + 1) - 1 = k - d - 1 := by omega
      have y1 := l3Abs_eq (a := sideOf t i j) (by omega) (by omega)
      have y2 := l3Abs_eq (a := sideOf t i (j + 1)) (by omega) (by omega)
      have z1 := find3_f h.ok b1.1 (m := k) (by omega) (by omega)
      have z2 := find3_f h.ok b2.1 (m := k) (by omega) (by omega)
      have q1 : 0 ≤ Int.tmod (((j + 1 : Nat)) : Int) 3 := by rw [tmod3]; omega
      have q2 : Int.tmod (((j + 1 : Nat)) : Int) 3 < 3 := by rw [tmod3]; omega
      have w1 : wrap64 ((j : Int) + 1) = ((j + 1 : Nat) : Int) := w_n (by omega) (by omega)
      have v1 : wrap64 (wrap64 (2 * ((sideOf t i j).natAbs : Int)) + (if decide (sideOf t i j > 0) = true then 1 else 0)) = En (sideOf t i j) := by
        rw [w_id (a := 2 * ((sideOf t i j).natAbs : Int)) (by omega) (by omega)]
        unfold En
        by_cases c : sideOf t i j > 0
        · rw [if_pos (decide_eq_true c), if_pos c, w_id (by omega) (by omega)]
        · rw [if_neg (by simpa using c), if_neg c, w_id (by omega) (by omega)]
      have v2 : wrap64 (wrap64 (2 * ((sideOf t i (j + 1)).natAbs : Int)) + (if decide (sideOf t i (j + 1) < 0) = true then 1 else 0)) = Bg (sideOf t i (j + 1)) := by
        rw [w_id (a := 2 * ((sideOf t i (j + 1)).natAbs : Int)) (by omega) (by omega)]
        unfold Bg
        by_cases c : sideOf t i (j + 1) < 0
        · rw [if_pos (decide_eq_true c), if_pos c, w_id (by omega) (by omega)]
        · rw [if_neg (by simpa using c), if_neg c, w_id (by omega) (by omega)]
      simp only [spec_l15Ends.l2]
      rw [w1, hl, if_pos x1, if_pos x2, if_pos x3, if_pos x4, if_pos x1, if_pos q1, if_pos q2]
      rw [rd_at ok hi x5, rd_side ok hi, y1, Option.bind_some, bit_eq, Option.bind_some, v1, z1, Option.bind_some, y2, Option.bind_some, bit_eq, Option.bind_some, v2, z2, Option.bind_some, if_pos c1.1, if_pos c1.2, e3, x6]
    · rw [rowG, show ep t i j = [(En (sideOf t i j), Bg (sideOf t i (j + 1)))] from rfl]
      simpa [List.append_assoc] using S3
theorem ends_l1 {t : List (List Int)} {n : Int} (ok : TriOk t n) : ∀ (d i k : Nat) (xs : List Int) (ps : List (Int × Int)), i + d = t.length → 200 + 5 * d < k → UF.Stands xs (3 * (t.length : Int) + 2) ps →
    ∃ ys, spec_l15Ends.l1 k t xs (i : Int) = some ys ∧ UF.Stands ys (3 * (t.length : Int) + 2) (ps ++ allG (ep t) d i) := by
  intro d
  induction d with
  | zero =>
    intro i k xs ps hi hk h
    obtain ⟨k, rfl⟩ : ∃ m, k = m + 1 := ⟨k - 1, by omega⟩
    refine ⟨xs, ?_, by simpa [allG] using h⟩
    simp only [spec_l15Ends.l1]
    rw [if_neg (by omega)]
  | succ d ih =>
    intro i k xs ps hi hk h
    obtain ⟨k, rfl⟩ : ∃ m, k = m + 1 := ⟨k - 1, by omega⟩
    obtain ⟨ys, e1, S1⟩ := ends_l2 ok (i := i) (by omega) 3 0 k xs ps (by omega) (by omega) h
    obtain ⟨zs, e2, S2⟩ := ih (i + 1) (k - 3 - 1) ys _ (by omega) (by omega) S1
    refine ⟨zs, ?_, by rw [allG, ← List.append_assoc]; exact S2⟩
    simp only [spec_l15Ends.l1]
    rw [if_pos (by omega)]
    have e1' : spec_l15Ends.l2 k t xs (i : Int) 0 = spec_l15Ends.l1 (k - 3 - 1) t ys ((i + 1 : Nat) : Int) := e1
    rw [e1', e2]
theorem ends_l0 (t : List (List Int)) (ht : t.length ≤ 1000) : ∀ (d k i : Nat), i + d = 3 * t.length + 2 → d < k → spec_l15Ends.l0 k t (UF.alone i) (i : Int) = spec_l15Ends.l1 (k - d - 1) t (UF.alone (3 * t.length + 2)) 0 := by
  intro d
  induction d with
  | zero =>
    intro k i hi hk
    obtain ⟨k, rfl⟩ : ∃ m, k = m + 1 := ⟨k - 1, by omega⟩
    simp only [spec_l15Ends.l0]
    rw [w_id (a := 3 * (t.length : Int)) (by omega) (by omega), w_id (a := 3 * (t.length : Int) + 1) (by omega) (by omega), if_neg (by omega), show i = 3 * t.length + 2 by omega]
    rfl
  | succ d ih =>
    intro k i hi hk
    obtain ⟨k, rfl⟩ : ∃ m, k = m + 1 := ⟨k - 1, by omega⟩
    simp only [spec_l15Ends.l0]
    rw [w_id (a := 3 * (t.length : Int)) (by omega) (by omega), w_id (a := 3 * (t.length : Int) + 1) (by omega) (by omega), if_pos (by omega), if_pos (by rw [alone_len]; omega), show wrap64 ((i : Int) + 1) = ((i + 1 : Nat) : Int) from w_n (by omega) (by omega), ← alone_succ, ih k (i + 1) (by omega) (by omega), show k + 1 - (d + 1) - 1 = k - d - 1 by omega]
theorem ends_f {t : List (List Int)} {n : Int} (ok : TriOk t n) (k : Nat) (hk : 1000 < k) : ∃ ys, spec_l15Ends.f k t = some ys ∧ UF.Stands ys (3 * (t.length : Int) + 2) (allG (ep t) t.length 0) := by
  have hs := ok.short
  have h0 := UF.alone_stands (3 * t.length + 2)
  have e0 : (((3 * t.length + 2 : Nat)) : Int) = 3 * (t.length : Int) + 2 := by omega
  rw [e0] at h0
  obtain ⟨ys, e, S⟩ := ends_l1 ok t.length 0 (k - (3 * t.length + 2) - 1) _ [] (by omega) (by omega) h0
  refine ⟨ys, ?_, by simpa using S⟩
  unfold spec_l15Ends.f
  have := ends_l0 t (by omega) (3 * t.length + 2) k 0 (by omega) (by omega)
  exact this.trans e
/-- The corner with a beginning. -/
def gm (t : List (List Int)) (e : Int) : Int := if e < 2 then 0 else (let x : Int := if e % 2 = 0 then e / 2 else -(e / 2); 3 * (sideR x t 0).1 + (sideR x t 0).2)
def fm (t : List (List Int)) (c : Int) : Int := Bg (sideOf t (c / 3).toNat (c % 3).toNat)
theorem fm_cor (t : List (List Int)) (i j : Nat) : fm t (cor i j) = Bg (sideOf t i j) := by
  unfold fm cor
  rw [show ((3 * (i : Int) + ((j % 3 : Nat) : Int)) / 3).toNat = i by omega, show ((3 * (i : Int) + ((j % 3 : Nat) : Int)) % 3).toNat = j % 3 by omega, sideOf_mod]
theorem gm_Bg {t : List (List Int)} {n : Int} (ok : TriOk t n) {i j : Nat} (hi : i < t.length) (hj : j < 3) : gm t (Bg (sideOf t i j)) = cor i j := by
  have hs := sideOf_in ok hi j
  have hx : (if Bg (sideOf t i j) % 2 = 0 then Bg (sideOf t i j) / 2 else -(Bg (sideOf t i j) / 2)) = sideOf t i j := by
    unfold Bg
    by_cases c : sideOf t i j < 0
    · rw [if_pos c, if_neg (by omega)]; omega
    · rw [if_neg c, if_pos (by omega)]; omega
  unfold gm
  rw [if_neg (by unfold Bg; split <;> omega), hx]
  dsimp only
  rw [side_at ok hi hj]
  unfold cor
  omega
theorem gm_Bg' {t : List (List Int)} {n : Int} (ok : TriOk t n) {i : Nat} (hi : i < t.length) (j : Nat) : gm t (Bg (sideOf t i j)) = cor i j := by
  have := gm_Bg ok hi (j := j % 3) (by omega)
  rw [sideOf_mod] at this
  rw [this]
  unfold cor
  rw [Nat.mod_mod]
theorem gm_bd {t : List (List Int)} {n : Int} (ok : TriOk t n) (e : Int) (h0 : 0 ≤ e) (h1 : e < 3 * (t.length : Int) + 2) : 0 ≤ gm t e ∧ gm t e < 3 * (t.length : Int) := by
  have hs := ok.short
  have hl := ok.len
  unfold gm
  by_cases c : e < 2
  · rw [if_pos c]; omega
  · rw [if_neg c]
    dsimp only
    obtain ⟨o, a, ho, ha, h2, _⟩ := ok.side (x := if e % 2 = 0 then e / 2 else -(e / 2)) (by split <;> omega) (by split <;> omega) (by split <;> omega)
    rw [h2]
    dsimp only
    omega
/-- The classes are the same ones. -/
theorem cls_fm {t : List (List Int)} {n : Int} (ok : TriOk t n) {c d : Int} (hc : 0 ≤ c ∧ c < 3 * (t.length : Int)) (hd : 0 ≤ d ∧ d < 3 * (t.length : Int)) :
    UF.Cls (3 * (t.length : Int)) (allG (vp t) t.length 0) c d ↔ UF.Cls (3 * (t.length : Int) + 2) (allG (ep t) t.length 0) (fm t c) (fm t d) := by
  have corOf : ∀ c : Int, 0 ≤ c → c < 3 * (t.length : Int) → ∃ i j : Nat, i < t.length ∧ j < 3 ∧ c = cor i j := by
    intro c h0 h1
    exact ⟨(c / 3).toNat, (c % 3).toNat, by omega, by omega, by unfold cor; omega⟩
  have fb : ∀ c : Int, 0 ≤ c → c < 3 * (t.length : Int) → 0 ≤ fm t c ∧ fm t c < 3 * (t.length : Int) + 2 := by
    intro c h0 h1
    obtain ⟨i, j, hi, hj, rfl⟩ := corOf c h0 h1
    rw [fm_cor]
    exact Bg_bd ok hi j
  have epm : ∀ i j : Nat, i < t.length → j < 3 → UF.Cls (3 * (t.length : Int) + 2) (allG (ep t) t.length 0) (En (sideOf t i j)) (Bg (sideOf t i (j + 1))) := by
    intro i j hi hj
    refine .pair ((mem_allG _ _).2 ⟨i, by omega, by omega, j, hj, by simp [ep]⟩) ?_ ?_ ?_ ?_
    · exact (En_bd ok hi j).1
    · exact (En_bd ok hi j).2
    · exact (Bg_bd ok hi (j + 1)).1
    · exact (Bg_bd ok hi (j + 1)).2
  have vpm : ∀ i j : Nat, i < t.length → j < 3 → ∀ p, p ∈ vp t i j → UF.Cls (3 * (t.length : Int)) (allG (vp t) t.length 0) p.1 p.2 := by
    intro i j hi hj p hp
    obtain ⟨o1, o2, o3, o4⟩ := opp_at ok hi j
    have hm : p ∈ allG (vp t) t.length 0 := (mem_allG _ _).2 ⟨i, by omega, by omega, j, hj, hp⟩
    have hp' : p = (cor i j, cor (opp t i j).1 ((opp t i j).2 + 1)) ∨ p = (cor i (j + 1), cor (opp t i j).1 (opp t i j).2) := by simpa [vp] using hp
    rcases hp' with e | e
    · subst e
      exact .pair hm (cor_bd hi _).1 (cor_bd hi _).2 (cor_bd o1 _).1 (cor_bd o1 _).2
    · subst e
      exact .pair hm (cor_bd hi _).1 (cor_bd hi _).2 (cor_bd o1 _).1 (cor_bd o1 _).2
  constructor
  · intro h
    refine h.map (fm t) (fun i a b => fb i a b) ?_
    intro a b hm _ _ _ _
    obtain ⟨i, _, hi, j, hj, hp⟩ := (mem_allG _ _).1 hm
    have hi' : i < t.length := by omega
    obtain ⟨o1, o2, o3, o4⟩ := opp_at ok hi' j
    have hs := sideOf_in ok hi' j
    have hp' : (a, b) = (cor i j, cor (opp t i j).1 ((opp t i j).2 + 1)) ∨ (a, b) = (cor i (j + 1), cor (opp t i j).1 (opp t i j).2) := by simpa [vp] using hp
    rcases hp' with e | e
    · obtain ⟨rfl, rfl⟩ := Prod.mk.inj e
      rw [fm_cor, fm_cor]
      have := epm _ _ o1 o2
      rw [o3, En_neg (by omega), Int.neg_neg] at this
      exact this
    · obtain ⟨rfl, rfl⟩ := Prod.mk.inj e
      rw [fm_cor, fm_cor, o3, ← En_neg hs.1]
      exact (epm i j hi' hj).symm
  · intro h
    have := UF.Cls.map (p2 := allG (vp t) t.length 0) (n2 := 3 * (t.length : Int)) (gm t) (fun e a b => gm_bd ok e a b) (fun a b hm _ _ _ _ => by
      obtain ⟨i, _, hi, j, hj, hp⟩ := (mem_allG _ _).1 hm
      have hi' : i < t.length := by omega
      obtain ⟨o1, o2, o3, o4⟩ := opp_at ok hi' j
      have hs := sideOf_in ok hi' j
      have hp' : (a, b) = (En (sideOf t i j), Bg (sideOf t i (j + 1))) := by simpa [ep] using hp
      obtain ⟨rfl, rfl⟩ := Prod.mk.inj hp'
      rw [En_neg hs.1, ← o3, gm_Bg' ok o1, gm_Bg' ok hi']
      exact (vpm i j hi' hj (cor i (j + 1), cor (opp t i j).1 (opp t i j).2) (by simp [vp])).symm) h
    obtain ⟨i, j, hi, hj, rfl⟩ := corOf c hc.1 hc.2
    obtain ⟨k, l, hk, hl, rfl⟩ := corOf d hd.1 hd.2
    rwa [fm_cor, fm_cor, gm_Bg' ok hi, gm_Bg' ok hk] at this
end Go.Proofs.Ytjmhcbilefnhdaa.L

namespace Go.Proofs.Ytjmhcbilefnhdaa.Cyc
open Go.Proofs.Ytjmhcbilefnhdaa.UF
set_option linter.unusedVariables false
set_option linter.unusedSimpArgs false

/-- From x by f through the numbers of a list to y. -/
def Walk (f : Int → Int) : Int → List Int → Int → Prop
  | x, [], y => f x = y
  | x, z :: l, y => f x = z ∧ Walk f z l y
theorem Walk.append {f : Int → Int} {b y : Int} {m : List Int} : ∀ {l : List Int} {x : Int}, Walk f x (l ++ b :: m) y ↔ Walk f x l b ∧ Walk f b m y
  | [], x => by simp [Walk]
  | z :: l, x => by
    have := Walk.append (f := f) (b := b) (y := y) (m := m) (l := l) (x := z)
    simp [Walk, this, and_assoc]
theorem Walk.from {f g : Int → Int} {y : Int} : ∀ {l : List Int} {a c : Int}, Walk f a l y → g c = f a → (∀ z ∈ l, g z = f z) → Walk g c l y
  | [], a, c, h, e, _ => by
    simp only [Walk] at h ⊢
    rw [e, h]
  | z :: l, a, c, h, e, he => by
    simp only [Walk] at h ⊢
    exact ⟨by rw [e, h.1], Walk.from h.2 (he z (by simp)) (fun w hw => he w (by simp [hw]))⟩
theorem Walk.congr {f g : Int → Int} {y a : Int} {l : List Int} (h : Walk f a l y) (he : ∀ z ∈ a :: l, g z = f z) : Walk g a l y := h.from (he a (by simp)) (fun z hz => he z (by simp [hz]))

/-- The numbers of a cycle (its head, the others). -/
def el (c : Int × List Int) : List Int := c.1 :: c.2
/-- All numbers of D, each in one cycle of f. -/
structure Dec (f : Int → Int) (D : List Int) (L : List (Int × List Int)) : Prop where
  all : (L.flatMap el).Perm D
  cyc : ∀ c ∈ L, Walk f c.1 c.2 c.1
theorem rotate {f : Int → Int} {h a : Int} {t : List Int} (w : Walk f h t h) (ha : a ∈ h :: t) : ∃ l, Walk f a l a ∧ (a :: l).Perm (h :: t) := by
  rcases List.mem_cons.1 ha with rfl | hm
  · exact ⟨t, w, List.Perm.refl _⟩
  · obtain ⟨t1, t2, rfl⟩ := List.append_of_mem hm
    obtain ⟨w1, w2⟩ := Walk.append.1 w
    refine ⟨t2 ++ h :: t1, Walk.append.2 ⟨w2, w1⟩, ?_⟩
    have e1 : (a :: (t2 ++ h :: t1)).Perm ((h :: t1) ++ (a :: t2)) := by
      have := List.perm_append_comm (l₁ := a :: t2) (l₂ := h :: t1)
      simpa using this
    simpa using e1
/-- A cycle with this number as its head, the others behind it. -/
theorem Dec.pick {f : Int → Int} {D : List Int} {L : List (Int × List Int)} (h : Dec f D L) {a : Int} (ha : a ∈ D) : ∃ l R, Dec f D ((a, l) :: R) ∧ L.length = R.length + 1 ∧ (∀ c ∈ R, c ∈ L) ∧ ∃ c ∈ L, ∀ x, x ∈ a :: l → x ∈ el c := by
  have h1 : a ∈ L.flatMap el := h.all.mem_iff.2 ha
  obtain ⟨c, hc, hac⟩ := List.mem_flatMap.1 h1
  obtain ⟨s, t, rfl⟩ := List.append_of_mem hc
  obtain ⟨l, wl, pl⟩ := rotate (h.cyc c hc) hac
  refine ⟨l, s ++ t, ⟨?_, ?_⟩, by simp; omega, fun d hd => ?_, c, hc, fun x hx => pl.mem_iff.1 hx⟩
  · refine List.Perm.trans ?_ h.all
    have e1 : (s ++ c :: t).flatMap el = s.flatMap el ++ (el c ++ t.flatMap el) := by simp
    have e2 : ((a, l) :: (s ++ t)).flatMap el = (a :: l) ++ (s.flatMap el ++ t.flatMap el) := by simp [el]
    rw [e1, e2]
    refine (List.Perm.append_right _ pl).trans ?_
    exact List.perm_append_comm_assoc _ _ _
  · intro d hd
    rcases List.mem_cons.1 hd with rfl | hd
    · exact wl
    · exact h.cyc d (by rcases List.mem_append.1 hd with q | q <;> simp [q])
  · rcases List.mem_append.1 hd with q | q <;> simp [q]
/-- f behind the exchange of a and b. -/
def sw (f : Int → Int) (a b : Int) : Int → Int := fun x => if x = a then f b else if x = b then f a else f x
theorem sw_a (f : Int → Int) (a b : Int) : sw f a b a = f b := by simp [sw]
theorem sw_b (f : Int → Int) (a b : Int) : sw f a b b = f a := by
  by_cases h : b = a
  · subst h; simp [sw]
  · simp [sw, h]
theorem sw_o (f : Int → Int) {a b x : Int} (h : x ≠ a) (h2 : x ≠ b) : sw f a b x = f x := by simp [sw, h, h2]
/-- One transposition: one cycle more where the two stood in one, one less where they did not. -/
theorem step {f : Int → Int} {D : List Int} {L : List (Int × List Int)} (hD : D.Nodup) (h : Dec f D L) {a b : Int} (ha : a ∈ D) (hb : b ∈ D) (hab : a ≠ b) :
    ∃ L', Dec (sw f a b) D L' ∧ ((L'.length = L.length + 1 ∧ ∃ c ∈ L, a ∈ el c ∧ b ∈ el c) ∨ L'.length + 1 = L.length) := by
  obtain ⟨l, R, d, hl, _, c0, hc0, hsub⟩ := h.pick ha
  have hn : (((a, l) :: R).flatMap el).Nodup := d.all.nodup_iff.2 hD
  have e0 : ((a, l) :: R).flatMap el = (a :: l) ++ R.flatMap el := by simp [el]
  rw [e0] at hn
  obtain ⟨n1, n2, n3⟩ := List.nodup_append.1 hn
  have wl := d.cyc (a, l) (by simp)
  by_cases hbl : b ∈ l
  · obtain ⟨l1, l2, rfl⟩ := List.append_of_mem hbl
    obtain ⟨w1, w2⟩ := Walk.append.1 wl
    have na : ∀ x ∈ l1 ++ l2, x ≠ a ∧ x ≠ b := by
      intro x hx
      have q1 := List.nodup_cons.1 n1
      have q2 := List.nodup_append.1 q1.2
      have q3 := List.nodup_cons.1 q2.2.1
      refine ⟨fun e => q1.1 (by subst e; rcases List.mem_append.1 hx with q | q <;> simp [q]), fun e => ?_⟩
      subst e
      rcases List.mem_append.1 hx with q | q
      · exact q2.2.2 x q x (by simp) rfl
      · exact q3.1 q
    refine ⟨(a, l2) :: (b, l1) :: R, ⟨?_, ?_⟩, .inl ⟨by simp; omega, c0, hc0, hsub a (by simp), hsub b (by simp)⟩⟩
    · refine List.Perm.trans ?_ d.all
      have e1 : ((a, l2) :: (b, l1) :: R).flatMap el = (a :: l2) ++ ((b :: l1) ++ R.flatMap el) := by simp [el]
      rw [e1, e0, ← List.append_assoc]
      refine List.Perm.append_right _ ?_
      refine List.Perm.cons a ?_
      exact (List.perm_append_comm (l₁ := l2) (l₂ := b :: l1)).trans (List.perm_middle (a := b) (l₁ := l1) (l₂ := l2)).symm
    · intro c hc
      rcases List.mem_cons.1 hc with rfl | hc
      · exact w2.from (sw_a f a b) (fun z hz => sw_o f (na z (by simp [hz])).1 (na z (by simp [hz])).2)
      · rcases List.mem_cons.1 hc with rfl | hc
        · exact w1.from (sw_b f a b) (fun z hz => sw_o f (na z (by simp [hz])).1 (na z (by simp [hz])).2)
        · refine (d.cyc c (by simp [hc])).congr fun z hz => ?_
          have hz' : z ∈ R.flatMap el := List.mem_flatMap.2 ⟨c, hc, hz⟩
          exact sw_o f (fun e => n3 a (by simp) z hz' e.symm) (fun e => n3 b (by simp) z hz' e.symm)
  · have hb1 : b ∈ R.flatMap el := by
      have := d.all.mem_iff.2 hb
      rw [e0] at this
      rcases List.mem_append.1 this with q | q
      · rcases List.mem_cons.1 q with q | q
        · exact absurd q.symm hab
        · exact absurd q hbl
      · exact q
    have dR : Dec f (R.flatMap el) R := ⟨List.Perm.refl _, fun c hc => d.cyc c (by simp [hc])⟩
    obtain ⟨m, R2, d2, hl2, hR2, _⟩ := dR.pick hb1
    have e2 : ((b, m) :: R2).flatMap el = (b :: m) ++ R2.flatMap el := by simp [el]
    have wm := d2.cyc (b, m) (by simp)
    have n2' : (((b, m) :: R2).flatMap el).Nodup := d2.all.nodup_iff.2 n2
    rw [e2] at n2'
    obtain ⟨k1, k2, k3⟩ := List.nodup_append.1 n2'
    have inR : ∀ x, x ∈ b :: m ∨ x ∈ R2.flatMap el → x ∈ R.flatMap el := fun x hx => d2.all.mem_iff.1 (by rw [e2]; exact List.mem_append.2 hx)
    refine ⟨(a, m ++ b :: l) :: R2, ⟨?_, ?_⟩, .inr (by simp; omega)⟩
    · refine List.Perm.trans ?_ d.all
      rw [e0]
      have e3 : ((a, m ++ b :: l) :: R2).flatMap el = (a :: (m ++ b :: l)) ++ R2.flatMap el := by simp [el]
      rw [e3]
      have p1 : ((a :: l) ++ R.flatMap el).Perm ((a :: l) ++ ((b :: m) ++ R2.flatMap el)) := List.Perm.append_left _ (by rw [← e2]; exact d2.all.symm)
      refine List.Perm.trans ?_ p1.symm
      rw [← List.append_assoc]
      refine List.Perm.append_right _ ?_
      refine List.Perm.cons a ?_
      have := List.perm_middle (a := b) (l₁ := m) (l₂ := l)
      refine this.trans ?_
      have q : (l ++ b :: m).Perm (b :: (l ++ m)) := List.perm_middle
      refine List.Perm.trans ?_ q.symm
      exact List.Perm.cons b List.perm_append_comm
    · intro c hc
      rcases List.mem_cons.1 hc with rfl | hc
      · refine Walk.append.2 ⟨wm.from (sw_a f a b) (fun z hz => sw_o f (fun e => ?_) (fun e => ?_)), wl.from (sw_b f a b) (fun z hz => sw_o f (fun e => ?_) (fun e => ?_))⟩
        · exact n3 a (by simp) z (inR z (.inl (by simp [hz]))) e.symm
        · subst e
          exact (List.nodup_cons.1 k1).1 hz
        · subst e
          exact (List.nodup_cons.1 n1).1 hz
        · subst e
          exact hbl hz
      · refine (d2.cyc c (by simp [hc])).congr fun z hz => ?_
        have hz' : z ∈ R2.flatMap el := List.mem_flatMap.2 ⟨c, hc, hz⟩
        exact sw_o f (fun e => n3 a (by simp) z (inR z (.inr hz')) e.symm) (fun e => k3 b (by simp) z hz' e.symm)
end Go.Proofs.Ytjmhcbilefnhdaa.Cyc

namespace Go.Proofs.Ytjmhcbilefnhdaa.Cyc
open Go.Proofs.Ytjmhcbilefnhdaa.UF
set_option linter.unusedVariables false
set_option linter.unusedSimpArgs false

theorem uniq {x : Int} {c d : Int × List Int} : ∀ {L : List (Int × List Int)}, (L.flatMap el).Nodup → c ∈ L → d ∈ L → x ∈ el c → x ∈ el d → c = d
  | [], _, hc, _, _, _ => by simp at hc
  | e :: R, hn, hc, hd, xc, xd => by
    have hn' : (el e ++ R.flatMap el).Nodup := by simpa using hn
    obtain ⟨n1, n2, n3⟩ := List.nodup_append.1 hn'
    rcases List.mem_cons.1 hc with e1 | h1
    · rcases List.mem_cons.1 hd with e2 | h2
      · rw [e1, e2]
      · subst e1; exact absurd rfl (n3 x xc x (List.mem_flatMap.2 ⟨d, h2, xd⟩))
    · rcases List.mem_cons.1 hd with e2 | h2
      · subst e2; exact absurd rfl (n3 x xd x (List.mem_flatMap.2 ⟨c, h1, xc⟩))
      · exact uniq n2 h1 h2 xc xd
theorem nodup_of : ∀ {L : List (Int × List Int)}, (L.flatMap el).Nodup → L.Nodup
  | [], _ => by simp
  | e :: R, hn => by
    have hn' : (el e ++ R.flatMap el).Nodup := by simpa using hn
    obtain ⟨n1, n2, n3⟩ := List.nodup_append.1 hn'
    refine List.nodup_cons.2 ⟨fun he => ?_, nodup_of n2⟩
    exact n3 e.1 (by simp [el]) e.1 (List.mem_flatMap.2 ⟨e, he, by simp [el]⟩) rfl
/-- Two numbers of one cycle. -/
def In (L : List (Int × List Int)) (x y : Int) : Prop := ∃ c ∈ L, x ∈ el c ∧ y ∈ el c
theorem walk_rel {f : Int → Int} (R : Int → Int → Prop) (tr : ∀ {x y z}, R x y → R y z → R x z) : ∀ {l : List Int} {h y : Int}, Walk f h l y → (∀ z ∈ h :: l, R z (f z)) → ∀ z ∈ l, R h z
  | [], h, y, w, hr, z, hz => by simp at hz
  | a :: l, h, y, w, hr, z, hz => by
    simp only [Walk] at w
    have h1 : R h a := by
      have := hr h (by simp)
      rwa [w.1] at this
    rcases List.mem_cons.1 hz with rfl | hz
    · exact h1
    · exact tr h1 (walk_rel R tr w.2 (fun q hq => hr q (by simp [List.mem_cons.1 hq])) z hz)
theorem in_rel {f : Int → Int} {D : List Int} {L : List (Int × List Int)} (d : Dec f D L) (R : Int → Int → Prop) (tr : ∀ {x y z}, R x y → R y z → R x z) (sy : ∀ {x y}, R x y → R y x) (rf : ∀ x ∈ D, R x x) (hr : ∀ x ∈ D, R x (f x)) {x y : Int} (h : In L x y) : R x y := by
  obtain ⟨c, hc, hx, hy⟩ := h
  have sub : ∀ z ∈ el c, z ∈ D := fun z hz => d.all.mem_iff.1 (List.mem_flatMap.2 ⟨c, hc, hz⟩)
  have w := d.cyc c hc
  have key : ∀ z ∈ el c, R c.1 z := by
    intro z hz
    rcases List.mem_cons.1 hz with rfl | hz'
    · exact rf _ (sub _ (by simp [el]))
    · exact walk_rel R tr w (fun q hq => hr q (sub q hq)) z hz'
  exact tr (sy (key x hx)) (key y hy)
/-- As many cycles as classes. -/
theorem count {f : Int → Int} {D : List Int} {L : List (Int × List Int)} {up : List Int} {n : Int} {ps : List (Int × Int)} (hD : D.Nodup) (hm : ∀ x, x ∈ D ↔ 0 ≤ x ∧ x < n) (d : Dec f D L) (s : Stands up n ps)
    (h1 : ∀ x ∈ D, Cls n ps x (f x)) (h2 : ∀ i j, (i, j) ∈ ps → 0 ≤ i → i < n → 0 ≤ j → j < n → In L i j) : (roots up).length = L.length := by
  have hn : (L.flatMap el).Nodup := d.all.nodup_iff.2 hD
  have hl := s.len
  have cov : ∀ x, 0 ≤ x → x < n → ∃ c ∈ L, x ∈ el c := fun x a b => List.mem_flatMap.1 (d.all.mem_iff.2 ((hm x).2 ⟨a, b⟩))
  have toIn : ∀ {i j}, Cls n ps i j → In L i j := by
    intro i j h
    induction h with
    | refl a b => obtain ⟨c, hc, hx⟩ := cov _ a b; exact ⟨c, hc, hx, hx⟩
    | pair h a b c d => exact h2 _ _ h a b c d
    | symm _ ih => obtain ⟨c, hc, q1, q2⟩ := ih; exact ⟨c, hc, q2, q1⟩
    | trans _ _ ih1 ih2 =>
      obtain ⟨c, hc, q1, q2⟩ := ih1
      obtain ⟨e, he, r1, r2⟩ := ih2
      obtain rfl := uniq hn hc he q2 r1
      exact ⟨c, hc, q1, r2⟩
  have toCls : ∀ {i j}, In L i j → Cls n ps i j := fun h => in_rel d (Cls n ps) (fun a b => .trans a b) (fun a => .symm a) (fun x hx => .refl ((hm x).1 hx).1 ((hm x).1 hx).2) h1 h
  have hb : ∀ c ∈ L, 0 ≤ c.1 ∧ c.1 < n := fun c hc => (hm _).1 (d.all.mem_iff.1 (List.mem_flatMap.2 ⟨c, hc, by simp [el]⟩))
  have hnd : (L.map fun c => (rt up c.1).toNat).Nodup := by
    refine map_nodup _ (nodup_of hn) fun c e hc he q => ?_
    have bc := hb c hc
    have be := hb e he
    have m1 := s.ok.rt_mem bc.1 (by omega)
    have m2 := s.ok.rt_mem be.1 (by omega)
    have eq : rt up c.1 = rt up e.1 := by rw [← m1.2, ← m2.2, q]
    obtain ⟨g, hg, g1, g2⟩ := toIn ((s.same_iff bc be).1 eq)
    have e1 := uniq hn hc hg (by simp [el] : c.1 ∈ el c) g1
    have e2 := uniq hn he hg (by simp [el] : e.1 ∈ el e) g2
    rw [e1, e2]
  have hp : ((L.map fun c => (rt up c.1).toNat)).Perm (roots up) := by
    refine (List.perm_ext_iff_of_nodup hnd (roots_nodup up)).2 fun x => ⟨fun hx => ?_, fun hx => ?_⟩
    · obtain ⟨c, hc, rfl⟩ := List.mem_map.1 hx
      exact (s.ok.rt_mem (hb c hc).1 (by have := (hb c hc).2; omega)).1
    · obtain ⟨x1, x2⟩ := mem_roots.1 hx
      obtain ⟨c, hc, hxc⟩ := cov (x : Int) (by omega) (by omega)
      refine List.mem_map.2 ⟨c, hc, ?_⟩
      have q := (s.same_iff (hb c hc) ⟨by omega, by omega⟩).2 (toCls ⟨c, hc, by simp [el], hxc⟩)
      rw [q, rt_of (.here x2)]
      omega
  have := hp.length_eq
  rw [List.length_map] at this
  exact this.symm
/-- f behind all these exchanges. -/
def sws (f : Int → Int) : List (Int × Int) → Int → Int
  | [] => f
  | p :: T => sws (sw f p.1 p.2) T
theorem sws_other {x : Int} : ∀ {T : List (Int × Int)} {f : Int → Int}, (∀ p ∈ T, x ≠ p.1 ∧ x ≠ p.2) → sws f T x = f x
  | [], f, _ => rfl
  | p :: T, f, h => by
    show sws (sw f p.1 p.2) T x = f x
    rw [sws_other (fun q hq => h q (by simp [hq]))]
    exact sw_o f (h p (by simp)).1 (h p (by simp)).2
theorem sws_at : ∀ {T : List (Int × Int)} {f : Int → Int}, (T.flatMap fun p => [p.1, p.2]).Nodup → ∀ p ∈ T, sws f T p.1 = f p.2 ∧ sws f T p.2 = f p.1
  | [], f, _, p, hp => by simp at hp
  | q :: T, f, hn, p, hp => by
    have hn' : ([q.1, q.2] ++ T.flatMap fun p => [p.1, p.2]).Nodup := by simpa using hn
    obtain ⟨n1, n2, n3⟩ := List.nodup_append.1 hn'
    have ne : ∀ p ∈ T, ∀ x ∈ [q.1, q.2], x ≠ p.1 ∧ x ≠ p.2 := fun p hp x hx => ⟨n3 x hx p.1 (List.mem_flatMap.2 ⟨p, hp, by simp⟩), n3 x hx p.2 (List.mem_flatMap.2 ⟨p, hp, by simp⟩)⟩
    rcases List.mem_cons.1 hp with rfl | hp
    · show sws (sw f p.1 p.2) T p.1 = _ ∧ sws (sw f p.1 p.2) T p.2 = _
      rw [sws_other (fun r hr => ne r hr p.1 (by simp)), sws_other (fun r hr => ne r hr p.2 (by simp)), sw_a, sw_b]
      exact ⟨rfl, rfl⟩
    · have := sws_at (f := sw f q.1 q.2) n2 p hp
      show sws (sw f q.1 q.2) T p.1 = _ ∧ sws (sw f q.1 q.2) T p.2 = _
      rw [this.1, this.2, sw_o f (ne p hp q.1 (by simp)).2.symm (ne p hp q.2 (by simp)).2.symm, sw_o f (ne p hp q.1 (by simp)).1.symm (ne p hp q.2 (by simp)).1.symm]
      exact ⟨rfl, rfl⟩
theorem roots_down {up : List Int} {a b : Int} (ha : 0 ≤ a) (h1 : a < up.length) : (roots up).length ≤ (roots (up.set a.toNat b)).length + 1 := by
  have h : ∀ x ∈ roots up, x ∈ a.toNat :: roots (up.set a.toNat b) := by
    intro x hx
    obtain ⟨x1, x2⟩ := mem_roots.1 hx
    by_cases c : (x : Int) = a
    · rw [← c]; simp
    · refine List.mem_cons_of_mem _ (mem_roots.2 ⟨by simpa using x1, ?_⟩)
      rw [P_set ha h1 (by omega), if_neg c, x2]
  exact List.Nodup.length_le_of_subset (roots_nodup up) h
/-- All exchanges, one behind the other. -/
theorem run {F : Nat} (face : Int → Int) {D : List Int} (hD : D.Nodup) (hf : ∀ x ∈ D, 0 ≤ face x ∧ face x < (F : Int)) : ∀ (T : List (Int × Int)) (f : Int → Int) (L : List (Int × List Int)) (up : List Int) (ps : List (Int × Int)) (k : Nat),
    (∀ p ∈ T, p.1 ∈ D ∧ p.2 ∈ D ∧ p.1 ≠ p.2) → Dec f D L → Stands up (F : Int) ps → (∀ x ∈ D, Cls (F : Int) ps (face x) (face (f x))) → L.length + F ≤ k + 2 * (roots up).length → (L.length + F + k) % 2 = 0 →
    ∃ L' up', Dec (sws f T) D L' ∧ Stands up' (F : Int) (ps ++ T.map fun p => (face p.1, face p.2)) ∧ L'.length + F ≤ k + T.length + 2 * (roots up').length ∧ (L'.length + F + k + T.length) % 2 = 0
  | [], f, L, up, ps, k, _, d, s, _, hk, hp => ⟨L, up, d, by simpa using s, by simpa using hk, by simpa using hp⟩
  | (a, b) :: T, f, L, up, ps, k, hT, d, s, hc, hk, hp => by
    obtain ⟨ha, hb, hab⟩ := hT (a, b) (by simp)
    simp only at ha hb hab
    obtain ⟨L1, d1, h1⟩ := step hD d ha hb hab
    have fa := hf a ha
    have fb := hf b hb
    have hl := s.len
    have ra := s.ok.rt fa.1 (by omega)
    have rb := s.ok.rt fb.1 (by omega)
    have ba := s.ok.bd ra fa.1 (by omega)
    have J := (s.join fa fb ra rb).1
    have mono : ∀ {i j}, Cls (F : Int) ps i j → Cls (F : Int) (ps ++ [(face a, face b)]) i j := fun h => h.mono (fun p hp => by simp [hp])
    have ab : Cls (F : Int) (ps ++ [(face a, face b)]) (face a) (face b) := .pair (by simp) fa.1 fa.2 fb.1 fb.2
    have hc1 : ∀ x ∈ D, Cls (F : Int) (ps ++ [(face a, face b)]) (face x) (face (sw f a b x)) := by
      intro x hx
      by_cases e1 : x = a
      · subst e1
        rw [sw_a]
        exact ab.trans (mono (hc b hb))
      · by_cases e2 : x = b
        · subst e2
          rw [sw_b]
          exact ab.symm.trans (mono (hc a ha))
        · rw [sw_o f e1 e2]
          exact mono (hc x hx)
    have hdown := roots_down (b := rt up (face b)) ba.1 ba.2
    have hsame : In L a b → (roots up).length ≤ (roots (up.set (rt up (face a)).toNat (rt up (face b)))).length := by
      intro hin
      have hcl : Cls (F : Int) ps (face a) (face b) := in_rel d (fun x y => Cls (F : Int) ps (face x) (face y)) (fun a b => .trans a b) (fun a => .symm a) (fun x hx => .refl (hf x hx).1 (hf x hx).2) hc hin
      refine roots_le s J (fun i => i) (fun i a b => ⟨a, b⟩) (fun i j _ _ _ _ h => ?_)
      have := Cls.map (p2 := ps) (n2 := (F : Int)) (fun i => i) (fun i a b => ⟨a, b⟩) (fun i j hm a b c e => by
        rcases List.mem_append.1 hm with q | q
        · exact .pair q a b c e
        · obtain ⟨rfl, rfl⟩ := Prod.mk.inj (List.mem_singleton.1 q)
          exact hcl) h
      exact this
    have key : L1.length + F ≤ (k + 1) + 2 * (roots (up.set (rt up (face a)).toNat (rt up (face b)))).length ∧ (L1.length + F + (k + 1)) % 2 = 0 := by
      rcases h1 with ⟨e, hin⟩ | e
      · have := hsame hin
        omega
      · omega
    obtain ⟨L2, up2, d2, s2, q1, q2⟩ := run face hD hf T (sw f a b) L1 _ _ (k + 1) (fun p hp => hT p (by simp [hp])) d1 J hc1 key.1 key.2
    refine ⟨L2, up2, d2, by simpa using s2, ?_, ?_⟩
    · rw [List.length_cons]; omega
    · rw [List.length_cons]
      have e : L2.length + F + k + (T.length + 1) = L2.length + F + (k + 1) + T.length := by omega
      rw [e]; exact q2
/-- The next corner of a triangle; the triangle of a corner. -/
def next (x : Int) : Int := if x % 3 = 2 then x - 2 else x + 1
theorem alone_three (F : Nat) : alone (3 * (F + 1)) = alone (3 * F) ++ [3 * (F : Int), 3 * (F : Int) + 1, 3 * (F : Int) + 2] := by
  unfold alone
  have e : 3 * (F + 1) = 3 * F + 1 + 1 + 1 := by omega
  rw [e, List.range_succ, List.range_succ, List.range_succ]
  simp
def faces : Nat → List (Int × List Int)
  | 0 => []
  | F + 1 => faces F ++ [(3 * (F : Int), [3 * (F : Int) + 1, 3 * (F : Int) + 2])]
theorem faces_len : ∀ F, (faces F).length = F
  | 0 => rfl
  | F + 1 => by simp [faces, faces_len F]
theorem faces_all : ∀ F, (faces F).flatMap el = alone (3 * F)
  | 0 => rfl
  | F + 1 => by
    rw [alone_three, ← faces_all F]
    simp [faces, el]
theorem faces_cyc : ∀ F, ∀ c ∈ faces F, Walk next c.1 c.2 c.1
  | 0, c, hc => by simp [faces] at hc
  | F + 1, c, hc => by
    simp only [faces] at hc
    rcases List.mem_append.1 hc with q | q
    · exact faces_cyc F c q
    · obtain rfl := List.mem_singleton.1 q
      simp only [Walk, next]
      refine ⟨?_, ?_, ?_⟩
      · rw [if_neg (by omega)]
      · rw [if_neg (by omega)]; omega
      · rw [if_pos (by omega)]; omega
theorem faces_dec (F : Nat) : Dec next (alone (3 * F)) (faces F) := ⟨by rw [faces_all], faces_cyc F⟩
theorem mem_alone {n : Nat} {x : Int} : x ∈ alone n ↔ 0 ≤ x ∧ x < n := by
  unfold alone
  rw [List.mem_map]
  constructor
  · rintro ⟨a, ha, rfl⟩
    have := List.mem_range.1 ha
    omega
  · intro h
    exact ⟨x.toNat, List.mem_range.2 (by omega), by omega⟩
theorem alone_nodup (n : Nat) : (alone n).Nodup := map_nodup _ List.nodup_range (fun a b _ _ h => by omega)
theorem alone_roots (n : Nat) : (roots (alone n)).length = n := by
  unfold roots
  have e : (alone n).length = n := by simp [alone]
  rw [e, List.filter_eq_self.2]
  · simp
  · intro k hk
    have := List.mem_range.1 hk
    simp [alone_P n (k : Int) (by omega) (by omega)]
/-- THE NUMBERS: F triangles, T the pairs of corners whose sides are one edge; corners around vertices are the cycles of 'next behind the exchange'. V + F ≤ E + 2 K, and V + F + E is even. -/
theorem euler {F : Nat} {T : List (Int × Int)} (hT : ∀ p ∈ T, (0 ≤ p.1 ∧ p.1 < 3 * (F : Int)) ∧ (0 ≤ p.2 ∧ p.2 < 3 * (F : Int)) ∧ p.1 ≠ p.2) {vp fs : List (Int × Int)} {uv uf : List Int} (sv : Stands uv (3 * (F : Int)) vp) (sf : Stands uf (F : Int) fs)
    (v1 : ∀ x, 0 ≤ x → x < 3 * (F : Int) → Cls (3 * (F : Int)) vp x (sws next T x)) (v2 : ∀ i j, (i, j) ∈ vp → 0 ≤ i → i < 3 * (F : Int) → 0 ≤ j → j < 3 * (F : Int) → Cls (3 * (F : Int)) ((alone (3 * F)).map fun x => (x, sws next T x)) i j)
    (f1 : ∀ i j, Cls (F : Int) fs i j ↔ Cls (F : Int) (T.map fun p => (p.1 / 3, p.2 / 3)) i j) :
    (roots uv).length + F ≤ T.length + 2 * (roots uf).length ∧ ((roots uv).length + F + T.length) % 2 = 0 := by
  have hm : ∀ x, x ∈ alone (3 * F) ↔ 0 ≤ x ∧ x < 3 * (F : Int) := fun x => by rw [mem_alone]; omega
  have hD := alone_nodup (3 * F)
  obtain ⟨L, up, d, s, q1, q2⟩ := run (F := F) (fun x => x / 3) hD (fun x hx => by have := (hm x).1 hx; omega) T next (faces F) (alone F) [] 0
    (fun p hp => by obtain ⟨a, b, c⟩ := hT p hp; exact ⟨(hm _).2 a, (hm _).2 b, c⟩) (faces_dec F) (alone_stands F)
    (fun x hx => by
      have hx' := (hm x).1 hx
      have e : next x / 3 = x / 3 := by unfold next; split <;> omega
      rw [e]
      exact .refl (by omega) (by omega)) (by rw [faces_len, alone_roots]; omega) (by rw [faces_len]; omega)
  have hv : (roots uv).length = L.length := by
    refine count hD hm d sv (fun x hx => v1 x ((hm x).1 hx).1 ((hm x).1 hx).2) fun i j h a b c e => ?_
    replace h := v2 i j h a b c e
    -- classes of the pairs (x, f x) are the cycles
    have cov : ∀ x, 0 ≤ x → x < 3 * (F : Int) → ∃ c ∈ L, x ∈ el c := fun x a b => List.mem_flatMap.1 (d.all.mem_iff.2 ((hm x).2 ⟨a, b⟩))
    have hn : (L.flatMap el).Nodup := d.all.nodup_iff.2 hD
    clear a b c e
    induction h with
    | refl a b => obtain ⟨c, hc, hx⟩ := cov _ a b; exact ⟨c, hc, hx, hx⟩
    | pair h a b _ _ =>
      obtain ⟨x, _, e⟩ := List.mem_map.1 h
      obtain ⟨rfl, rfl⟩ := Prod.mk.inj e
      obtain ⟨c, hc, hx⟩ := cov _ a b
      refine ⟨c, hc, hx, ?_⟩
      have w := d.cyc c hc
      obtain ⟨l, wl, pl⟩ := rotate w hx
      refine pl.mem_iff.1 ?_
      cases l with
      | nil => simp only [Walk] at wl; rw [wl]; simp
      | cons z l => simp only [Walk] at wl; rw [wl.1]; simp
    | symm _ ih => obtain ⟨c, hc, r1, r2⟩ := ih; exact ⟨c, hc, r2, r1⟩
    | trans _ _ ih1 ih2 =>
      obtain ⟨c, hc, r1, r2⟩ := ih1
      obtain ⟨e, he, t1, t2⟩ := ih2
      obtain rfl := uniq hn hc he r2 t1
      exact ⟨c, hc, r1, t2⟩
  have hK : (roots up).length = (roots uf).length := by
    have := (roots_perm s sf (fun i j => by rw [f1 i j]; simp)).length_eq
    rwa [List.length_map] at this
  rw [hv]
  omega
end Go.Proofs.Ytjmhcbilefnhdaa.Cyc


namespace Go.Proofs.Ytjmhcbilefnhdaa.L
open Go.RowKit Go.Proofs.Ytjmhcbilefnhdaa.P Go.Proofs.Ytjmhcbilefnhdaa.Help Go.Proofs.YtjmhcbilefnhdaaW.PrintWords
set_option linter.unusedVariables false
set_option linter.unusedSimpArgs false

/-- The corner at the beginning of a side. -/
def pos (t : List (List Int)) (s : Int) : Int := 3 * (sideR s t 0).1 + (sideR s t 0).2
theorem pos_cor {t : List (List Int)} {n : Int} (ok : TriOk t n) {i j : Nat} (hi : i < t.length) (hj : j < 3) : pos t (sideOf t i j) = cor i j := by
  unfold pos cor
  rw [side_at ok hi hj]
  have : j % 3 = j := by omega
  rw [this]
theorem pos_opp {t : List (List Int)} {n : Int} (ok : TriOk t n) {i j : Nat} (hi : i < t.length) (hj : j < 3) : pos t (-(sideOf t i j)) = cor (opp t i j).1 (opp t i j).2 := by
  obtain ⟨o1, o2, o3, o4⟩ := opp_at ok hi j
  rw [← o3, pos_cor ok o1 o2]
theorem pos_at {t : List (List Int)} {n : Int} (ok : TriOk t n) {s : Int} (h0 : s ≠ 0) (h1 : -n ≤ s) (h2 : s ≤ n) : ∃ i j : Nat, i < t.length ∧ j < 3 ∧ sideOf t i j = s ∧ pos t s = cor i j := by
  obtain ⟨i, j, hi, hj, _, e⟩ := ok.side h0 h1 h2
  exact ⟨i, j, hi, hj, e, by rw [← e]; exact pos_cor ok hi hj⟩
theorem cor_inj {i j k l : Nat} (hj : j < 3) (hl : l < 3) (e : cor i j = cor k l) : i = k ∧ j = l := by
  unfold cor at e
  omega
theorem pos_inj {t : List (List Int)} {n : Int} (ok : TriOk t n) {s s' : Int} (h0 : s ≠ 0) (h1 : -n ≤ s) (h2 : s ≤ n) (k0 : s' ≠ 0) (k1 : -n ≤ s') (k2 : s' ≤ n) (e : pos t s = pos t s') : s = s' := by
  obtain ⟨i, j, hi, hj, e1, p1⟩ := pos_at ok h0 h1 h2
  obtain ⟨k, l, hk, hl, e2, p2⟩ := pos_at ok k0 k1 k2
  obtain ⟨rfl, rfl⟩ := cor_inj hj hl (by rw [← p1, ← p2, e])
  rw [← e1, ← e2]
/-- The sides, each with its inverse. -/
def sgn : Nat → List (Int × Int)
  | 0 => []
  | m + 1 => sgn m ++ [((m : Int) + 1, -((m : Int) + 1))]
theorem mem_sgn {p : Int × Int} : ∀ {m : Nat}, p ∈ sgn m ↔ (1 ≤ p.1 ∧ p.1 ≤ (m : Int)) ∧ p.2 = -p.1
  | 0 => by simp [sgn]; omega
  | m + 1 => by
    simp only [sgn]
    rw [List.mem_append, mem_sgn (m := m), List.mem_singleton]
    constructor
    · rintro (⟨a, b⟩ | rfl)
      · exact ⟨by omega, b⟩
      · exact ⟨by simp only; omega, rfl⟩
    · rintro ⟨a, b⟩
      by_cases c : p.1 = (m : Int) + 1
      · exact .inr (Prod.ext c (by rw [b, c]))
      · exact .inl ⟨by omega, b⟩
theorem sgn_len : ∀ m, (sgn m).length = m
  | 0 => rfl
  | m + 1 => by simp [sgn, sgn_len m]
theorem sgn_flat : ∀ m, ((sgn m).flatMap fun p => [p.1, p.2]).Nodup
  | 0 => by simp [sgn]
  | m + 1 => by
    have e : (sgn (m + 1)).flatMap (fun p => [p.1, p.2]) = (sgn m).flatMap (fun p => [p.1, p.2]) ++ [(m : Int) + 1, -((m : Int) + 1)] := by simp [sgn]
    rw [e]
    refine List.nodup_append.2 ⟨sgn_flat m, ?_, ?_⟩
    · refine List.nodup_cons.2 ⟨?_, by simp⟩
      simp
      omega
    · intro x hx y hy
      obtain ⟨p, hp, hxp⟩ := List.mem_flatMap.1 hx
      obtain ⟨a, b⟩ := mem_sgn.1 hp
      simp only [List.mem_cons, List.not_mem_nil, or_false] at hxp hy
      omega
/-- The exchange of the corners at the two sides of each edge. -/
def exch (t : List (List Int)) (m : Nat) : List (Int × Int) := (sgn m).map fun p => (pos t p.1, pos t p.2)
theorem exch_flat {t : List (List Int)} {m : Nat} (ok : TriOk t (m : Int)) : ((exch t m).flatMap fun p => [p.1, p.2]).Nodup := by
  have e : (exch t m).flatMap (fun p => [p.1, p.2]) = ((sgn m).flatMap fun p => [p.1, p.2]).map (pos t) := by
    unfold exch
    rw [List.flatMap_map, List.map_flatMap]
    rfl
  rw [e]
  have hb : ∀ x ∈ (sgn m).flatMap (fun p => [p.1, p.2]), x ≠ 0 ∧ -(m : Int) ≤ x ∧ x ≤ m := by
    intro x hx
    obtain ⟨p, hp, hxp⟩ := List.mem_flatMap.1 hx
    obtain ⟨a, b⟩ := mem_sgn.1 hp
    simp only [List.mem_cons, List.not_mem_nil, or_false] at hxp
    omega
  refine UF.map_nodup _ (sgn_flat m) fun x y hx hy q => ?_
  have bx := hb x hx
  have b_y := hb y hy
  exact pos_inj ok bx.1 bx.2.1 bx.2.2 b_y.1 b_y.2.1 b_y.2.2 q
theorem exch_at {t : List (List Int)} {m : Nat} (ok : TriOk t (m : Int)) {s : Int} (h0 : s ≠ 0) (h1 : -(m : Int) ≤ s) (h2 : s ≤ m) (f : Int → Int) : Cyc.sws f (exch t m) (pos t s) = f (pos t (-s)) := by
  have hf := exch_flat ok
  by_cases c : 0 < s
  · have hm : (pos t s, pos t (-s)) ∈ exch t m := List.mem_map.2 ⟨(s, -s), mem_sgn.2 ⟨⟨by simp only; omega, h2⟩, rfl⟩, rfl⟩
    exact (Cyc.sws_at hf _ hm).1
  · have hm : (pos t (-s), pos t s) ∈ exch t m := List.mem_map.2 ⟨(-s, s), mem_sgn.2 ⟨⟨by simp only; omega, by simp only; omega⟩, by simp⟩, rfl⟩
    exact (Cyc.sws_at hf _ hm).2
theorem next_cor (i : Nat) {j : Nat} (hj : j < 3) : Cyc.next (cor i j) = cor i (j + 1) := by
  unfold Cyc.next cor
  split <;> omega
theorem exch_cor {t : List (List Int)} {m : Nat} (ok : TriOk t (m : Int)) {i j : Nat} (hi : i < t.length) (hj : j < 3) : Cyc.sws Cyc.next (exch t m) (cor i j) = cor (opp t i j).1 ((opp t i j).2 + 1) := by
  have hs := sideOf_in ok hi j
  obtain ⟨o1, o2, o3, o4⟩ := opp_at ok hi j
  rw [← pos_cor ok hi hj, exch_at ok hs.1 hs.2.1 hs.2.2, pos_opp ok hi hj, next_cor _ o2]
theorem exch_opp {t : List (List Int)} {m : Nat} (ok : TriOk t (m : Int)) {i j : Nat} (hi : i < t.length) (hj : j < 3) : Cyc.sws Cyc.next (exch t m) (cor (opp t i j).1 (opp t i j).2) = cor i (j + 1) := by
  have hs := sideOf_in ok hi j
  rw [← pos_opp ok hi hj, exch_at ok (by omega) (by omega) (by omega), Int.neg_neg, pos_cor ok hi hj, next_cor _ hj]
/-- The triangles at the two sides of an edge. -/
def fp (t : List (List Int)) (i j : Nat) : List (Int × Int) := [((i : Int), ((opp t i j).1 : Int))]
theorem cor_div (i : Nat) (j : Nat) : cor i j / 3 = (i : Int) := by
  unfold cor
  omega
theorem tri_euler {t : List (List Int)} {m : Nat} (ok : TriOk t (m : Int)) {uv uf : List Int} (sv : UF.Stands uv (3 * (t.length : Int)) (allG (vp t) t.length 0)) (sf : UF.Stands uf (t.length : Int) (allG (fp t) t.length 0)) :
    (UF.roots uv).length + t.length ≤ m + 2 * (UF.roots uf).length ∧ ((UF.roots uv).length + t.length + m) % 2 = 0 := by
  have corOf : ∀ c : Int, 0 ≤ c → c < 3 * (t.length : Int) → ∃ i j : Nat, i < t.length ∧ j < 3 ∧ c = cor i j := by
    intro c h0 h1
    exact ⟨(c / 3).toNat, (c % 3).toNat, by omega, by omega, by unfold cor; omega⟩
  have hl : (exch t m).length = m := by unfold exch; rw [List.length_map, sgn_len]
  have hb : ∀ p ∈ sgn m, (p.1 ≠ 0 ∧ -(m : Int) ≤ p.1 ∧ p.1 ≤ m) ∧ (p.2 ≠ 0 ∧ -(m : Int) ≤ p.2 ∧ p.2 ≤ m) ∧ p.1 ≠ p.2 := by
    intro p hp
    obtain ⟨a, b⟩ := mem_sgn.1 hp
    omega
  have pb : ∀ s : Int, s ≠ 0 ∧ -(m : Int) ≤ s ∧ s ≤ m → 0 ≤ pos t s ∧ pos t s < 3 * (t.length : Int) := by
    intro s hs
    obtain ⟨i, j, hi, hj, _, e⟩ := pos_at ok hs.1 hs.2.1 hs.2.2
    rw [e]
    exact cor_bd hi j
  have key := Cyc.euler (F := t.length) (T := exch t m) (fun p hp => by
    obtain ⟨q, hq, rfl⟩ := List.mem_map.1 hp
    obtain ⟨b1, b2, b3⟩ := hb q hq
    exact ⟨pb _ b1, pb _ b2, fun e => b3 (pos_inj ok b1.1 b1.2.1 b1.2.2 b2.1 b2.2.1 b2.2.2 e)⟩) sv sf
    (fun x h0 h1 => by
      obtain ⟨i, j, hi, hj, rfl⟩ := corOf x h0 h1
      rw [exch_cor ok hi hj]
      obtain ⟨o1, o2, o3, o4⟩ := opp_at ok hi j
      exact .pair ((mem_allG _ _).2 ⟨i, by omega, by omega, j, hj, by simp [vp]⟩) h0 h1 (cor_bd o1 _).1 (cor_bd o1 _).2)
    (fun a b hm _ _ _ _ => by
      obtain ⟨i, _, hi, j, hj, hp⟩ := (mem_allG _ _).1 hm
      have hi' : i < t.length := by omega
      obtain ⟨o1, o2, o3, o4⟩ := opp_at ok hi' j
      have hp' : (a, b) = (cor i j, cor (opp t i j).1 ((opp t i j).2 + 1)) ∨ (a, b) = (cor i (j + 1), cor (opp t i j).1 (opp t i j).2) := by simpa [vp] using hp
      have one : ∀ x : Int, 0 ≤ x → x < 3 * (t.length : Int) → 0 ≤ Cyc.sws Cyc.next (exch t m) x → Cyc.sws Cyc.next (exch t m) x < 3 * (t.length : Int) → UF.Cls (3 * (t.length : Int)) ((UF.alone (3 * t.length)).map fun x => (x, Cyc.sws Cyc.next (exch t m) x)) x (Cyc.sws Cyc.next (exch t m) x) := fun x h0 h1 h2 h3 =>
        .pair (List.mem_map.2 ⟨x, Cyc.mem_alone.2 (by omega), rfl⟩) h0 h1 h2 h3
      rcases hp' with e | e
      · obtain ⟨rfl, rfl⟩ := Prod.mk.inj e
        have e1 := exch_cor ok hi' hj
        have := one (cor i j) (cor_bd hi' j).1 (cor_bd hi' j).2 (by rw [e1]; exact (cor_bd o1 _).1) (by rw [e1]; exact (cor_bd o1 _).2)
        rwa [e1] at this
      · obtain ⟨rfl, rfl⟩ := Prod.mk.inj e
        have e1 := exch_opp ok hi' hj
        have := one (cor (opp t i j).1 (opp t i j).2) (cor_bd o1 _).1 (cor_bd o1 _).2 (by rw [e1]; exact (cor_bd hi' _).1) (by rw [e1]; exact (cor_bd hi' _).2)
        rw [e1] at this
        exact this.symm)
    (fun a b => by
      constructor
      · intro h
        refine UF.Cls.map (p2 := (exch t m).map fun p => (p.1 / 3, p.2 / 3)) (n2 := (t.length : Int)) (fun i => i) (fun i a b => ⟨a, b⟩) (fun a b hm _ _ _ _ => ?_) h
        obtain ⟨i, _, hi, j, hj, hp⟩ := (mem_allG _ _).1 hm
        have hi' : i < t.length := by omega
        obtain ⟨o1, o2, o3, o4⟩ := opp_at ok hi' j
        have hs := sideOf_in ok hi' j
        have hp' : (a, b) = ((i : Int), ((opp t i j).1 : Int)) := by simpa [fp] using hp
        obtain ⟨rfl, rfl⟩ := Prod.mk.inj hp'
        have two : ∀ s : Int, s ≠ 0 ∧ -(m : Int) ≤ s ∧ s ≤ m → 0 < s → (pos t s / 3, pos t (-s) / 3) ∈ (exch t m).map fun p => (p.1 / 3, p.2 / 3) := fun s hs h0 =>
          List.mem_map.2 ⟨(pos t s, pos t (-s)), List.mem_map.2 ⟨(s, -s), mem_sgn.2 ⟨⟨by simp only; omega, hs.2.2⟩, rfl⟩, rfl⟩, rfl⟩
        have e1 : pos t (sideOf t i j) / 3 = (i : Int) := by rw [pos_cor ok hi' hj, cor_div]
        have e2 : pos t (-(sideOf t i j)) / 3 = ((opp t i j).1 : Int) := by rw [pos_opp ok hi' hj, cor_div]
        by_cases c : 0 < sideOf t i j
        · have := two _ hs c
          rw [e1, e2] at this
          exact .pair this (by omega) (by omega) (by omega) (by omega)
        · have := two (-(sideOf t i j)) (by omega) (by omega)
          rw [Int.neg_neg, e1, e2] at this
          exact (UF.Cls.pair this (by omega) (by omega) (by omega) (by omega)).symm
      · intro h
        refine UF.Cls.map (p2 := allG (fp t) t.length 0) (n2 := (t.length : Int)) (fun i => i) (fun i a b => ⟨a, b⟩) (fun a b hm _ _ _ _ => ?_) h
        obtain ⟨p, hp, e⟩ := List.mem_map.1 hm
        obtain ⟨q, hq, rfl⟩ := List.mem_map.1 hp
        obtain ⟨b1, b2⟩ := mem_sgn.1 hq
        obtain ⟨i, j, hi, hj, e1, e2⟩ := pos_at ok (s := q.1) (by omega) (by omega) (by omega)
        obtain ⟨o1, o2, o3, o4⟩ := opp_at ok hi j
        obtain ⟨rfl, rfl⟩ := Prod.mk.inj e
        simp only
        rw [b2, e2, ← e1, pos_opp ok hi hj, cor_div, cor_div]
        exact .pair ((mem_allG _ _).2 ⟨i, by omega, by omega, j, hj, by simp [fp]⟩) (by omega) (by omega) (by omega) (by omega))
  rw [hl] at key
  exact key
end Go.Proofs.Ytjmhcbilefnhdaa.L

namespace Go.Proofs.Ytjmhcbilefnhdaa.L
open Go.RowKit Go.Proofs.Ytjmhcbilefnhdaa.P Go.Proofs.Ytjmhcbilefnhdaa.Help Go.Proofs.YtjmhcbilefnhdaaW.PrintWords
set_option linter.unusedVariables false
set_option linter.unusedSimpArgs false

theorem surf_l1 {t : List (List Int)} {n : Int} (ok : TriOk t n) (ht : t.length ≤ 1048576) (hr : ∀ r ∈ t, r.length ≤ 1048576) {i : Nat} (hi : i < t.length) : ∀ (d j k : Nat) (xs : List Int) (ps : List (Int × Int)), j + d = 3 → 3000100 + d < k → UF.Stands xs (t.length : Int) ps →
    ∃ ys, impl_TriSurface.l1 k t xs (i : Int) (j : Int) = impl_TriSurface.l0 (k - d - 1) t ys ((i + 1 : Nat) : Int) ∧ UF.Stands ys (t.length : Int) (ps ++ rowG (fp t) i d j) := by
  have h3 := ok.three hi
  have hs := ok.short
  have hl : ((rd_L1 t (i : Int)).length : Int) = 3 := by rw [rdL_nat t i hi, h3]; rfl
  intro d
  induction d with
  | zero =>
    intro j k xs ps hj hk h
    obtain ⟨k, rfl⟩ : ∃ m, k = m + 1 := ⟨k - 1, by omega⟩
    refine ⟨xs, ?_, by simpa [rowG] using h⟩
    simp only [impl_TriSurface.l1]
    rw [hl, if_neg (by omega), w_n (m := i + 1) (by omega) (by omega)]
    rfl
  | succ d ih =>
    intro j k xs ps hj hk h
    obtain ⟨k, rfl⟩ : ∃ m, k = m + 1 := ⟨k - 1, by omega⟩
    have hn := h.len
    have hs1 := sideOf_in ok hi j
    have n9 := ok.n9
    obtain ⟨o1, o2, o3, o4⟩ := opp_at ok hi j
    obtain ⟨ys, e1, S1⟩ := join_f h (a := (i : Int)) (b := ((opp t i j).1 : Int)) (by omega) (by omega) (m := k) (by omega)
    obtain ⟨us, e3, S3⟩ := ih (j + 1) k ys _ (by omega) (by omega) S1
    refine ⟨us, ?_, ?_⟩
    · simp only [impl_TriSurface.l1]
      rw [hl, if_pos (by omega), if_pos (by omega), rd_at ok hi (by omega), w_id (a := -(sideOf t i j)) (by omega) (by omega), sideAt_f _ t ht hr k (by omega), Option.bind_some, o4]
      dsimp only
      rw [e1, Option.bind_some, show wrap64 ((j : Int) + 1) = ((j + 1 : Nat) : Int) from w_n (by omega) (by omega), e3, show k + 1 - (d + 1) - 1 = k - d - 1 by omega]
    · rw [rowG, show fp t i j = [((i : Int), ((opp t i j).1 : Int))] from rfl]
      simpa [List.append_assoc] using S3
theorem surf_l0 {t : List (List Int)} {n : Int} (ok : TriOk t n) (ht : t.length ≤ 1048576) (hr : ∀ r ∈ t, r.length ≤ 1048576) : ∀ (d i k : Nat) (xs : List Int) (ps : List (Int × Int)), i + d = t.length → 3000200 + 5 * d < k → UF.Stands xs (t.length : Int) ps →
    ∃ ys, impl_TriSurface.l0 k t xs (i : Int) = some ys ∧ UF.Stands ys (t.length : Int) (ps ++ allG (fp t) d i) := by
  intro d
  induction d with
  | zero =>
    intro i k xs ps hi hk h
    obtain ⟨k, rfl⟩ : ∃ m, k = m + 1 := ⟨k - 1, by omega⟩
    refine ⟨xs, ?_, by simpa [allG] using h⟩
    simp only [impl_TriSurface.l0]
    rw [if_neg (by omega)]
  | succ d ih =>
    intro i k xs ps hi hk h
    obtain ⟨k, rfl⟩ : ∃ m, k = m + 1 := ⟨k - 1, by omega⟩
    obtain ⟨ys, e1, S1⟩ := surf_l1 ok ht hr (i := i) (by omega) 3 0 k xs ps (by omega) (by omega) h
    obtain ⟨zs, e2, S2⟩ := ih (i + 1) (k - 3 - 1) ys _ (by omega) (by omega) S1
    refine ⟨zs, ?_, by rw [allG, ← List.append_assoc]; exact S2⟩
    simp only [impl_TriSurface.l0]
    rw [if_pos (by omega), if_pos (by omega)]
    have e1' : impl_TriSurface.l1 k t xs (i : Int) 0 = impl_TriSurface.l0 (k - 3 - 1) t ys ((i + 1 : Nat) : Int) := e1
    rw [e1', e2]
/-- The number of roots below i. -/
def cntS (up : List Int) (i : Nat) : Nat := ((List.range i).filter fun (k : Nat) => decide (UF.P up (k : Int) = (k : Int))).length
theorem cntS_succ (up : List Int) (i : Nat) : cntS up (i + 1) = cntS up i + (if UF.P up (i : Int) = (i : Int) then 1 else 0) := by
  unfold cntS
  rw [List.range_succ, List.filter_append, List.length_append]
  congr 1
  by_cases h : UF.P up (i : Int) = (i : Int)
  · rw [if_pos h]; simp [h]
  · rw [if_neg h]; simp [h]
theorem cntS_le (up : List Int) : ∀ i, cntS up i ≤ i
  | 0 => Nat.le_refl _
  | i + 1 => by
    have := cntS_le up i
    rw [cntS_succ]
    split <;> omega
theorem countS_l0 (up : List Int) (hu : up.length ≤ 2000) : ∀ (d k i : Nat), i + d = up.length → d < k → joiner_count.l0 k up (cntS up i : Int) (i : Int) = some ((UF.roots up).length : Int)
  | 0, k, i, hi, hk => by
    obtain ⟨k, rfl⟩ : ∃ m, k = m + 1 := ⟨k - 1, by omega⟩
    simp only [joiner_count.l0]
    rw [if_neg (by omega), show i = up.length by omega]
    rfl
  | d + 1, k, i, hi, hk => by
    obtain ⟨k, rfl⟩ : ∃ m, k = m + 1 := ⟨k - 1, by omega⟩
    have hc := cntS_le up i
    have ih := countS_l0 up hu d k (i + 1) (by omega) (by omega)
    rw [cntS_succ, show UF.P up (i : Int) = rd up (i : Int) from rfl] at ih
    simp only [joiner_count.l0]
    rw [if_pos (by omega), if_pos (by omega), w_id (a := (i : Int) + 1) (by omega) (by omega), show ((i : Int) + 1) = ((i + 1 : Nat) : Int) by omega]
    by_cases h : rd up (i : Int) = (i : Int)
    · rw [if_pos h.symm, w_id (by omega) (by omega)]
      rw [if_pos h] at ih
      rw [show ((cntS up i : Int) + 1) = ((cntS up i + 1 : Nat) : Int) by omega]
      exact ih
    · rw [if_neg (fun e => h e.symm)]
      rw [if_neg h, Nat.add_zero] at ih
      exact ih
theorem countS_f (up : List Int) (hu : up.length ≤ 2000) (k : Nat) (hk : up.length < k) : joiner_count.l0 k up 0 0 = some ((UF.roots up).length : Int) := countS_l0 up hu up.length k 0 (by omega) hk
/-- Rows of pairs, one behind the other. -/
def catG (f : Nat → List (Int × Int)) : Nat → Nat → List (Int × Int)
  | 0, _ => []
  | d + 1, i => f i ++ catG f d (i + 1)
theorem mem_catG {f : Nat → List (Int × Int)} {p : Int × Int} : ∀ {d i : Nat}, p ∈ catG f d i ↔ ∃ q, i ≤ q ∧ q < i + d ∧ p ∈ f q
  | 0, i => by
    simp only [catG, List.not_mem_nil, false_iff]
    rintro ⟨q, a, b, _⟩
    omega
  | d + 1, i => by
    simp only [catG]
    rw [List.mem_append, mem_catG (d := d) (i := i + 1)]
    constructor
    · rintro (h | ⟨q, a, b, c⟩)
      · exact ⟨i, by omega, by omega, h⟩
      · exact ⟨q, by omega, by omega, c⟩
    · rintro ⟨q, a, b, c⟩
      by_cases e : q = i
      · subst e; exact .inl c
      · exact .inr ⟨q, by omega, by omega, c⟩
/-- Two triangles with one edge at these places. -/
def fq (t : List (List Int)) (a b q : Nat) : List (Int × Int) := if sideOf t a (q / 3) = -(sideOf t b (q % 3)) then [((a : Int), (b : Int))] else []
theorem tdiv3 (m : Nat) : Int.tdiv (m : Int) 3 = ((m / 3 : Nat) : Int) := by
  rw [Int.tdiv_eq_ediv_of_nonneg (by omega)]
  omega
theorem part_l3 {t : List (List Int)} {n : Int} (ok : TriOk t n) {a b : Nat} (ha : a < t.length) (hb : b < t.length) : ∀ (d q k : Nat) (xs : List Int) (ps : List (Int × Int)), q + d = 9 → 100 + d < k → UF.Stands xs (t.length : Int) ps →
    ∃ ys, spec_l15Parts.l3 k t xs (a : Int) (b : Int) (q : Int) = spec_l15Parts.l2 (k - d - 1) t ys (a : Int) ((b + 1 : Nat) : Int) ∧ UF.Stands ys (t.length : Int) (ps ++ catG (fq t a b) d q) := by
  have hs := ok.short
  have la : ((rd_L1 t (a : Int)).length : Int) = 3 := by rw [rdL_nat t a ha, ok.three ha]; rfl
  have lb : ((rd_L1 t (b : Int)).length : Int) = 3 := by rw [rdL_nat t b hb, ok.three hb]; rfl
  intro d
  induction d with
  | zero =>
    intro q k xs ps hq hk h
    obtain ⟨k, rfl⟩ : ∃ m, k = m + 1 := ⟨k - 1, by omega⟩
    refine ⟨xs, ?_, by simpa [catG] using h⟩
    simp only [spec_l15Parts.l3]
    rw [if_neg (by omega), w_n (m := b + 1) (by omega) (by omega)]
    rfl
  | succ d ih =>
    intro q k xs ps hq hk h
    obtain ⟨k, rfl⟩ : ∃ m, k = m + 1 := ⟨k - 1, by omega⟩
    have hn := h.len
    have n9 := ok.n9
    have x1 : (q : Int) < 9 := by omega
    have x2 : (0 : Int) ≤ (a : Int) := by omega
    have x3 : (a : Int) < (t.length : Int) := by omega
    have x4 : (0 : Int) ≤ ((q / 3 : Nat) : Int) := by omega
    have x5 : ((q / 3 : Nat) : Int) < 3 := by omega
    have x6 : (0 : Int) ≤ (b : Int) := by omega
    have x7 : (b : Int) < (t.length : Int) := by omega
    have x8 : (0 : Int) ≤ ((q % 3 : Nat) : Int) := by omega
    have x9 : ((q % 3 : Nat) : Int) < 3 := by omega
    have b1 : 0 ≤ (a : Int) ∧ (a : Int) < (t.length : Int) := ⟨x2, x3⟩
    have b2 : 0 ≤ (b : Int) ∧ (b : Int) < (t.length : Int) := ⟨x6, x7⟩
    have l1 : (a : Int) < (xs.length : Int) := by omega
    have l2 : (b : Int) < (xs.length : Int) := by omega
    have hm1 : xs.length ≤ k := by omega
    have y1 : q / 3 < 3 := by omega
    have y2 : q % 3 < 3 := by omega
    have x10 : k + 1 - (d + 1) - 1 = k - d - 1 := by omega
    have x11 : q + 1 + d = 9 := by omega
    have x12 : 100 + d < k := by omega
    have w1 : wrap64 (((q / 3 : Nat) : Int)) = ((q / 3 : Nat) : Int) := w_n rfl (by omega)
    have w2 : wrap64 ((q : Int) + 1) = ((q + 1 : Nat) : Int) := w_n (by omega) (by omega)
    have sb := sideOf_in ok hb (q % 3)
    have w3 : wrap64 (-(sideOf t b (q % 3))) = -(sideOf t b (q % 3)) := w_id (by omega) (by omega)
    have r1 : rd (rd_L1 t (a : Int)) ((q / 3 : Nat) : Int) = sideOf t a (q / 3) := rd_at (i := a) (j := q / 3) ok ha y1
    have r2 : rd (rd_L1 t (b : Int)) ((q % 3 : Nat) : Int) = sideOf t b (q % 3) := rd_at (i := b) (j := q % 3) ok hb y2
    simp only [spec_l15Parts.l3]
    rw [tdiv3, tmod3, w1, w2, la, lb, if_pos x1, if_pos x2, if_pos x3, if_pos x4, if_pos x5, if_pos x6, if_pos x7, if_pos x8, if_pos x9, r1, r2, w3]
    by_cases c : sideOf t a (q / 3) = -(sideOf t b (q % 3))
    · have b1 : 0 ≤ (a : Int) ∧ (a : Int) < (t.length : Int) := ⟨x2, x3⟩
      have b2 : 0 ≤ (b : Int) ∧ (b : Int) < (t.length : Int) := ⟨x6, x7⟩
      have q1 := h.ok.rt b1.1 (by omega)
      have q2 := h.ok.rt b2.1 (by omega)
      have c1 := h.ok.bd q1 b1.1 (by omega)
      have J := (h.join b1 b2 q1 q2).1
      obtain ⟨us, e3, S3⟩ := ih (q + 1) k _ _ x11 x12 J
      have z1 := find3_f h.ok b1.1 (m := k) l1 hm1
      have z2 := find3_f h.ok b2.1 (m := k) l2 hm1
      refine ⟨us, ?_, ?_⟩
      · rw [if_pos c, z1, Option.bind_some, z2, Option.bind_some, if_pos c1.1, if_pos c1.2, e3, x10]
      · rw [catG, show fq t a b q = [((a : Int), (b : Int))] from if_pos c]
        simpa [List.append_assoc] using S3
    · obtain ⟨us, e3, S3⟩ := ih (q + 1) k xs ps x11 x12 h
      refine ⟨us, ?_, ?_⟩
      · rw [if_neg c, e3, x10]
      · rw [catG, show fq t a b q = [] from if_neg c]
        simpa using S3
theorem part_l2 {t : List (List Int)} {n : Int} (ok : TriOk t n) {a : Nat} (ha : a < t.length) : ∀ (d b k : Nat) (xs : List Int) (ps : List (Int × Int)), b + d = a → 200 + 11 * d < k → UF.Stands xs (t.length : Int) ps →
    ∃ ys, spec_l15Parts.l2 k t xs (a : Int) (b : Int) = spec_l15Parts.l1 (k - 11 * d - 1) t ys ((a + 1 : Nat) : Int) ∧ UF.Stands ys (t.length : Int) (ps ++ catG (fun b => catG (fq t a b) 9 0) d b) := by
  have hs := ok.short
  intro d
  induction d with
  | zero =>
    intro b k xs ps hb hk h
    obtain ⟨k, rfl⟩ : ∃ m, k = m + 1 := ⟨k - 1, by omega⟩
    refine ⟨xs, ?_, by simpa [catG] using h⟩
    simp only [spec_l15Parts.l2]
    rw [if_neg (by omega), w_n (m := a + 1) (by omega) (by omega)]
    rfl
  | succ d ih =>
    intro b k xs ps hb hk h
    obtain ⟨k, rfl⟩ : ∃ m, k = m + 1 := ⟨k - 1, by omega⟩
    obtain ⟨ys, e1, S1⟩ := part_l3 ok ha (b := b) (by omega) 9 0 k xs ps (by omega) (by omega) h
    obtain ⟨zs, e2, S2⟩ := ih (b + 1) (k - 9 - 1) ys _ (by omega) (by omega) S1
    refine ⟨zs, ?_, by rw [catG, ← List.append_assoc]; exact S2⟩
    simp only [spec_l15Parts.l2]
    rw [if_pos (by omega)]
    have e1' : spec_l15Parts.l3 k t xs (a : Int) (b : Int) 0 = spec_l15Parts.l2 (k - 9 - 1) t ys (a : Int) ((b + 1 : Nat) : Int) := e1
    rw [e1', e2, show k - 9 - 1 - 11 * d - 1 = k + 1 - 11 * (d + 1) - 1 by omega]
/-- The pairs of triangles that the reference joins. -/
def fa (t : List (List Int)) (a : Nat) : List (Int × Int) := catG (fun b => catG (fq t a b) 9 0) a 0
theorem part_l1 {t : List (List Int)} {n : Int} (ok : TriOk t n) : ∀ (d a k : Nat) (xs : List Int) (ps : List (Int × Int)), a + d = t.length → 400 + 100 * d < k → UF.Stands xs (t.length : Int) ps →
    ∃ ys k', 300 < k' ∧ spec_l15Parts.l1 k t xs (a : Int) = spec_l15Parts.l4 k' t ys 0 0 ∧ UF.Stands ys (t.length : Int) (ps ++ catG (fa t) d a) := by
  have hs := ok.short
  intro d
  induction d with
  | zero =>
    intro a k xs ps ha hk h
    obtain ⟨k, rfl⟩ : ∃ m, k = m + 1 := ⟨k - 1, by omega⟩
    refine ⟨xs, k, by omega, ?_, by simpa [catG] using h⟩
    simp only [spec_l15Parts.l1]
    rw [if_neg (by omega)]
  | succ d ih =>
    intro a k xs ps ha hk h
    obtain ⟨k, rfl⟩ : ∃ m, k = m + 1 := ⟨k - 1, by omega⟩
    obtain ⟨ys, e1, S1⟩ := part_l2 ok (a := a) (by omega) a 0 k xs ps (by omega) (by omega) h
    obtain ⟨zs, k', hk', e2, S2⟩ := ih (a + 1) (k - 11 * a - 1) ys _ (by omega) (by omega) S1
    refine ⟨zs, k', hk', ?_, by rw [catG, ← List.append_assoc]; exact S2⟩
    simp only [spec_l15Parts.l1]
    rw [if_pos (by omega)]
    have e1' : spec_l15Parts.l2 k t xs (a : Int) 0 = spec_l15Parts.l1 (k - 11 * a - 1) t ys ((a + 1 : Nat) : Int) := e1
    rw [e1', e2]
theorem part_l4 (t : List (List Int)) (up : List Int) (hl : up.length = t.length) (hu : up.length ≤ 2000) : ∀ (d k i : Nat), i + d = up.length → d < k → spec_l15Parts.l4 k t up (cntS up i : Int) (i : Int) = some ((UF.roots up).length : Int)
  | 0, k, i, hi, hk => by
    obtain ⟨k, rfl⟩ : ∃ m, k = m + 1 := ⟨k - 1, by omega⟩
    simp only [spec_l15Parts.l4]
    rw [if_neg (by omega), show i = up.length by omega]
    rfl
  | d + 1, k, i, hi, hk => by
    obtain ⟨k, rfl⟩ : ∃ m, k = m + 1 := ⟨k - 1, by omega⟩
    have hc := cntS_le up i
    have ih := part_l4 t up hl hu d k (i + 1) (by omega) (by omega)
    rw [cntS_succ, show UF.P up (i : Int) = rd up (i : Int) from rfl] at ih
    simp only [spec_l15Parts.l4]
    rw [if_pos (by omega), if_pos (by omega), if_pos (by omega), bit_eq, Option.bind_some, w_id (a := (i : Int) + 1) (by omega) (by omega), show ((i : Int) + 1) = ((i + 1 : Nat) : Int) by omega]
    by_cases h : rd up (i : Int) = (i : Int)
    · rw [if_pos (by simp [h]), w_id (by omega) (by omega)]
      rw [if_pos h] at ih
      rw [show ((cntS up i : Int) + 1) = ((cntS up i + 1 : Nat) : Int) by omega]
      exact ih
    · rw [if_neg (by simp [h]), w_id (by omega) (by omega)]
      rw [if_neg h, Nat.add_zero] at ih
      rw [Int.add_zero]
      exact ih
theorem part_l0 (t : List (List Int)) (ht : t.length ≤ 1000) : ∀ (d k i : Nat), i + d = t.length → d < k → spec_l15Parts.l0 k t (UF.alone i) (i : Int) = spec_l15Parts.l1 (k - d - 1) t (UF.alone t.length) 0 := by
  intro d
  induction d with
  | zero =>
    intro k i hi hk
    obtain ⟨k, rfl⟩ : ∃ m, k = m + 1 := ⟨k - 1, by omega⟩
    simp only [spec_l15Parts.l0]
    rw [if_neg (by omega), show i = t.length by omega]
    rfl
  | succ d ih =>
    intro k i hi hk
    obtain ⟨k, rfl⟩ : ∃ m, k = m + 1 := ⟨k - 1, by omega⟩
    simp only [spec_l15Parts.l0]
    rw [if_pos (by omega), if_pos (by rw [alone_len]; omega), show wrap64 ((i : Int) + 1) = ((i + 1 : Nat) : Int) from w_n (by omega) (by omega), ← alone_succ, ih k (i + 1) (by omega) (by omega), show k + 1 - (d + 1) - 1 = k - d - 1 by omega]
theorem part_f {t : List (List Int)} {n : Int} (ok : TriOk t n) (k : Nat) (hk : 2000 < k) : ∃ ys, spec_l15Parts.f k t = some ((UF.roots ys).length : Int) ∧ UF.Stands ys (t.length : Int) (catG (fa t) t.length 0) := by
  have hs := ok.short
  obtain ⟨ys, k', hk', e, S⟩ := part_l1 ok t.length 0 (k - t.length - 1) (UF.alone t.length) [] (by omega) (by omega) (UF.alone_stands t.length)
  have hl := S.len
  refine ⟨ys, ?_, by simpa using S⟩
  have e4 := part_l4 t ys (by omega) (by omega) ys.length k' 0 (by omega) (by omega)
  unfold spec_l15Parts.f
  have e0 := part_l0 t (by omega) t.length k 0 (by omega) (by omega)
  exact (e0.trans e).trans e4
/-- Both join the same triangles. -/
theorem part_cls {t : List (List Int)} {n : Int} (ok : TriOk t n) (i j : Int) : UF.Cls (t.length : Int) (catG (fa t) t.length 0) i j ↔ UF.Cls (t.length : Int) (allG (fp t) t.length 0) i j := by
  constructor
  · intro h
    refine UF.Cls.map (p2 := allG (fp t) t.length 0) (n2 := (t.length : Int)) (fun i => i) (fun i a b => ⟨a, b⟩) (fun x y hm _ _ _ _ => ?_) h
    obtain ⟨a, _, ha, h1⟩ := mem_catG.1 hm
    obtain ⟨b, _, hb, h2⟩ := mem_catG.1 h1
    obtain ⟨q, _, hq, h3⟩ := mem_catG.1 h2
    have ha' : a < t.length := by omega
    have hb' : b < t.length := by omega
    unfold fq at h3
    by_cases c : sideOf t a (q / 3) = -(sideOf t b (q % 3))
    · rw [if_pos c] at h3
      obtain ⟨rfl, rfl⟩ := Prod.mk.inj (List.mem_singleton.1 h3)
      obtain ⟨o1, o2, o3, o4⟩ := opp_at ok ha' (q / 3)
      have e : sideOf t (opp t a (q / 3)).1 (opp t a (q / 3)).2 = sideOf t b (q % 3) := by rw [o3, c, Int.neg_neg]
      have := (side_inj ok o1 o2 hb' (by omega) e).1
      exact .pair ((mem_allG _ _).2 ⟨a, by omega, by omega, q / 3, by omega, by simp [fp, this]⟩) (by omega) (by omega) (by omega) (by omega)
    · rw [if_neg c] at h3
      exact absurd h3 (by simp)
  · intro h
    refine UF.Cls.map (p2 := catG (fa t) t.length 0) (n2 := (t.length : Int)) (fun i => i) (fun i a b => ⟨a, b⟩) (fun x y hm _ _ _ _ => ?_) h
    obtain ⟨a, _, ha, j, hj, hp⟩ := (mem_allG _ _).1 hm
    have ha' : a < t.length := by omega
    obtain ⟨o1, o2, o3, o4⟩ := opp_at ok ha' j
    have hp' : (x, y) = ((a : Int), ((opp t a j).1 : Int)) := by simpa [fp] using hp
    obtain ⟨rfl, rfl⟩ := Prod.mk.inj hp'
    have one : ∀ (a b j l : Nat), a < t.length → b < a → j < 3 → l < 3 → sideOf t a j = -(sideOf t b l) → ((a : Int), (b : Int)) ∈ catG (fa t) t.length 0 := by
      intro a b j l h1 h2 h3 h4 e
      refine mem_catG.2 ⟨a, by omega, by omega, mem_catG.2 ⟨b, by omega, by omega, mem_catG.2 ⟨3 * j + l, by omega, by omega, ?_⟩⟩⟩
      unfold fq
      rw [show (3 * j + l) / 3 = j by omega, show (3 * j + l) % 3 = l by omega, if_pos e]
      simp
    rcases Nat.lt_trichotomy a (opp t a j).1 with h | h | h
    · exact (UF.Cls.pair (one _ _ _ _ o1 h o2 hj o3) (by omega) (by omega) (by omega) (by omega)).symm
    · rw [← h]
      exact .refl (by omega) (by omega)
    · exact .pair (one _ _ _ _ ha' h hj o2 (by rw [o3, Int.neg_neg])) (by omega) (by omega) (by omega) (by omega)
/-- The numbers 0 and 1 stand alone. -/
theorem far2 {n : Int} {ps : List (Int × Int)} (hp : ∀ p, p ∈ ps → 2 ≤ p.1 ∧ 2 ≤ p.2) {i j : Int} (h : UF.Cls n ps i j) : (i < 2 ∨ j < 2) → i = j := by
  induction h with
  | refl _ _ => intro _; rfl
  | pair h _ _ _ _ =>
    intro c
    have := hp _ h
    simp only at this
    omega
  | symm _ ih => intro c; exact (ih c.symm).symm
  | trans _ _ ih1 ih2 =>
    intro c
    rcases c with c | c
    · have e := ih1 (.inl c)
      subst e
      exact ih2 (.inl c)
    · have e := ih2 (.inr c)
      subst e
      exact ih1 (.inr c)
theorem Bg_two {s : Int} (h : s ≠ 0) : 2 ≤ Bg s := by
  unfold Bg
  split <;> omega
theorem ends_far {t : List (List Int)} {n : Int} (ok : TriOk t n) : ∀ p, p ∈ allG (ep t) t.length 0 → 2 ≤ p.1 ∧ 2 ≤ p.2 := by
  intro p hp
  obtain ⟨i, _, hi, j, hj, h⟩ := (mem_allG _ _).1 hp
  have hi' : i < t.length := by omega
  have e : p = (En (sideOf t i j), Bg (sideOf t i (j + 1))) := by simpa [ep] using h
  subst e
  have a := sideOf_in ok hi' j
  have b := sideOf_in ok hi' (j + 1)
  refine ⟨?_, Bg_two b.1⟩
  show 2 ≤ En (sideOf t i j)
  rw [En_neg a.1]
  exact Bg_two (by omega)
/-- As many classes of beginnings and ends as of corners, and two more (0 and 1). -/
theorem ends_count {t : List (List Int)} {n : Int} (ok : TriOk t n) {ue uv : List Int} (se : UF.Stands ue (3 * (t.length : Int) + 2) (allG (ep t) t.length 0)) (sv : UF.Stands uv (3 * (t.length : Int)) (allG (vp t) t.length 0)) :
    (UF.P ue 0 = 0 ∧ UF.P ue 1 = 1) ∧ (UF.roots ue).length = (UF.roots uv).length + 2 := by
  have hl := ok.len
  have le := se.len
  have lv := sv.len
  have n3 := ok.n3
  have low : ∀ x : Int, 0 ≤ x → x < 2 → UF.P ue x = x := by
    intro x h0 h1
    have r := se.ok.rt h0 (by omega)
    have b := se.ok.bd r h0 (by omega)
    have c : UF.Cls (3 * (t.length : Int) + 2) (allG (ep t) t.length 0) x (UF.rt ue x) := (se.cls _ _).2 ⟨by omega, by omega, _, r, .here r.root⟩
    have e := far2 (ends_far ok) c (.inl h1)
    have := r.root
    rwa [← e] at this
  refine ⟨⟨low 0 (by omega) (by omega), low 1 (by omega) (by omega)⟩, ?_⟩
  have corOf : ∀ c : Int, 0 ≤ c → c < 3 * (t.length : Int) → ∃ i j : Nat, i < t.length ∧ j < 3 ∧ c = cor i j := by
    intro c h0 h1
    exact ⟨(c / 3).toNat, (c % 3).toNat, by omega, by omega, by unfold cor; omega⟩
  have fmb : ∀ i, 0 ≤ i → i < 3 * (t.length : Int) → (0 ≤ fm t i ∧ fm t i < 3 * (t.length : Int) + 2) ∧ 2 ≤ fm t i := by
    intro c h0 h1
    obtain ⟨i, j, hi, hj, rfl⟩ := corOf c h0 h1
    rw [fm_cor]
    exact ⟨Bg_bd ok hi j, Bg_two (sideOf_in ok hi j).1⟩
  have hm := UF.roots_map sv se (fm t) (fun i a b => (fmb i a b).1) (fun i j a b c d h => (cls_fm ok ⟨a, b⟩ ⟨c, d⟩).2 h)
  have big : ∀ x, 0 ≤ x → x < 3 * (t.length : Int) → 2 ≤ UF.rt ue (fm t x) := by
    intro x h0 h1
    have f := fmb x h0 h1
    have r := se.ok.rt f.1.1 (by omega)
    have b := se.ok.bd r f.1.1 (by omega)
    have c : UF.Cls (3 * (t.length : Int) + 2) (allG (ep t) t.length 0) (fm t x) (UF.rt ue (fm t x)) := (se.cls _ _).2 ⟨f.1, by omega, _, r, .here r.root⟩
    by_cases q : UF.rt ue (fm t x) < 2
    · have := far2 (ends_far ok) c (.inr q)
      omega
    · omega
  have bd : ∀ a, a ∈ UF.roots uv → 0 ≤ (a : Int) ∧ (a : Int) < 3 * (t.length : Int) := by
    intro a ha
    have := (UF.mem_roots.1 ha).1
    omega
  have hnd : (0 :: 1 :: (UF.roots uv).map fun (r : Nat) => (UF.rt ue (fm t (r : Int))).toNat).Nodup := by
    refine List.nodup_cons.2 ⟨fun h => ?_, List.nodup_cons.2 ⟨fun h => ?_, hm.1⟩⟩
    · rcases List.mem_cons.1 h with h | h
      · exact absurd h (by decide)
      · obtain ⟨a, ha, e⟩ := List.mem_map.1 h
        have := big a (bd a ha).1 (bd a ha).2
        omega
    · obtain ⟨a, ha, e⟩ := List.mem_map.1 h
      have := big a (bd a ha).1 (bd a ha).2
      omega
  have hp : (0 :: 1 :: (UF.roots uv).map fun (r : Nat) => (UF.rt ue (fm t (r : Int))).toNat).Perm (UF.roots ue) := by
    refine (List.perm_ext_iff_of_nodup hnd (UF.roots_nodup ue)).2 fun x => ⟨fun hx => ?_, fun hx => ?_⟩
    · rcases List.mem_cons.1 hx with rfl | hx
      · exact UF.mem_roots.2 ⟨by omega, low 0 (by omega) (by omega)⟩
      · rcases List.mem_cons.1 hx with rfl | hx
        · exact UF.mem_roots.2 ⟨by omega, low 1 (by omega) (by omega)⟩
        · exact hm.2 x hx
    · obtain ⟨x1, x2⟩ := UF.mem_roots.1 hx
      by_cases q0 : x = 0
      · simp [q0]
      · by_cases q1 : x = 1
        · simp [q1]
        · refine List.mem_cons_of_mem _ (List.mem_cons_of_mem _ ?_)
          -- x is the beginning of a side
          obtain ⟨s, h0, h1, h2, e⟩ : ∃ s : Int, s ≠ 0 ∧ -n ≤ s ∧ s ≤ n ∧ Bg s = (x : Int) := by
            by_cases c : x % 2 = 0
            · refine ⟨((x / 2 : Nat) : Int), by omega, by omega, by omega, ?_⟩
              unfold Bg
              rw [if_neg (by omega)]
              omega
            · refine ⟨-((x / 2 : Nat) : Int), by omega, by omega, by omega, ?_⟩
              unfold Bg
              rw [if_pos (by omega)]
              omega
          obtain ⟨i, j, hi, hj, _, es⟩ := ok.side h0 h1 h2
          have cb := cor_bd hi j
          have ec : fm t (cor i j) = (x : Int) := by rw [fm_cor, es, e]
          have m1 := sv.ok.rt_mem cb.1 (by omega)
          have r1 := sv.ok.rt cb.1 (by omega)
          have b1 := sv.ok.bd r1 cb.1 (by omega)
          refine List.mem_map.2 ⟨_, m1.1, ?_⟩
          rw [m1.2]
          have c1 : UF.Cls (3 * (t.length : Int)) (allG (vp t) t.length 0) (cor i j) (UF.rt uv (cor i j)) := (sv.cls _ _).2 ⟨cb, by omega, _, r1, .here r1.root⟩
          have c2 := (cls_fm ok cb ⟨b1.1, by omega⟩).1 c1
          rw [ec] at c2
          have f2 := fmb _ b1.1 (by omega)
          have q := (se.same_iff ⟨by omega, by omega⟩ f2.1).2 c2
          rw [← q, UF.rt_of (.here x2)]
          omega
  have := hp.length_eq
  simp only [List.length_cons, List.length_map] at this
  omega
end Go.Proofs.Ytjmhcbilefnhdaa.L

namespace Go.Proofs.Ytjmhcbilefnhdaa.L
open Go.RowKit Go.Proofs.Ytjmhcbilefnhdaa.P Go.Proofs.Ytjmhcbilefnhdaa.Help Go.Proofs.YtjmhcbilefnhdaaW.PrintWords
set_option linter.unusedVariables false
set_option linter.unusedSimpArgs false

theorem surf_with {V F m : Nat} (hF : 3 * F = 2 * m) (hs : F ≤ 6) (hV : V + F ≤ m + 2) (hp : (V + F + m) % 2 = 0) :
    impl_surfaceWith.f (wrap64 ((wrap64 ((V : Int) - (wrap64 (Int.tdiv (wrap64 (3 * (F : Int))) 2)))) + (F : Int))) 0 true = some ((2 + (m : Int) - (V : Int) - (F : Int)) / 2, 0, 0, true) := by
  have a0 : 3 * (F : Int) = 2 * (m : Int) := by omega
  have hm : (m : Int) ≤ 9 := by omega
  have a2 : Int.tdiv (2 * (m : Int)) 2 = (m : Int) := by rw [Int.tdiv_eq_ediv_of_nonneg (by omega)]; omega
  have b0 : 0 ≤ 2 + (m : Int) - (V : Int) - (F : Int) := by omega
  have b1 : 2 + (m : Int) - (V : Int) - (F : Int) ≤ 20 := by omega
  have b2 : (2 + (m : Int) - (V : Int) - (F : Int)) % 2 = 0 := by omega
  have c1 : wrap64 (2 * (m : Int)) = 2 * (m : Int) := w_id (by omega) (by omega)
  have c2 : wrap64 (m : Int) = (m : Int) := w_id (by omega) (by omega)
  have c3 : wrap64 ((V : Int) - (m : Int)) = (V : Int) - (m : Int) := w_id (by omega) (by omega)
  have c4 : wrap64 ((V : Int) - (m : Int) + (F : Int)) = (V : Int) - (m : Int) + (F : Int) := w_id (by omega) (by omega)
  have c5 : wrap64 (2 - ((V : Int) - (m : Int) + (F : Int))) = 2 - ((V : Int) - (m : Int) + (F : Int)) := w_id (by omega) (by omega)
  have e5 : 2 - ((V : Int) - (m : Int) + (F : Int)) = 2 + (m : Int) - (V : Int) - (F : Int) := by omega
  rw [a0, c1, a2, c2, c3, c4]
  unfold impl_surfaceWith.f
  rw [if_pos rfl, c5, e5, Int.sub_zero]
  generalize 2 + (m : Int) - (V : Int) - (F : Int) = R at b0 b1 b2
  clear c1 c2 c3 c4 c5 e5
  have d1 : Int.tmod R 2 = 0 := by rw [Int.tmod_eq_emod_of_nonneg b0]; exact b2
  have d2 : Int.tdiv R 2 = R / 2 := Int.tdiv_eq_ediv_of_nonneg b0
  have d3 : 0 ≤ R / 2 ∧ R / 2 ≤ 20 := by omega
  have d4 : wrap64 R = R := w_id (by omega) (by omega)
  have d5 : wrap64 (R / 2) = R / 2 := w_id (by omega) (by omega)
  have d6 : impl_mod.f R 2 = some 0 := by
    unfold impl_mod.f
    rw [if_neg (by decide), d1, if_neg (by decide)]
  have d7 : impl_IsSurface.f (R / 2) 0 0 = some true := by
    unfold impl_IsSurface.f
    rw [within_eq, within_eq, decide_eq_true d3]
    simp
  rw [d4, d6, Option.bind_some, if_pos rfl, d2, d5, d7, Option.bind_some, if_pos rfl]
theorem sp_l0 (t : List (List Int)) (up : List Int) (hu : up.length ≤ 2000) : ∀ (d k i : Nat), i + d = up.length → 2 ≤ i → 2 ≤ cntS up i → d < k →
    spec_TriSurface.l0 k t up ((cntS up i : Int) - 2) (i : Int) = some (wrap64 (Int.tdiv (wrap64 ((wrap64 (2 - (((UF.roots up).length : Int) - 2))) + (wrap64 ((t.length : Int) / 2)))) 2), 0, 0, ((UF.roots up).length : Int) - 2, true)
  | 0, k, i, hi, h2, hc2, hk => by
    obtain ⟨k, rfl⟩ : ∃ m, k = m + 1 := ⟨k - 1, by omega⟩
    simp only [spec_TriSurface.l0]
    rw [if_neg (by omega), show i = up.length by omega]
    rfl
  | d + 1, k, i, hi, h2, hc2, hk => by
    obtain ⟨k, rfl⟩ : ∃ m, k = m + 1 := ⟨k - 1, by omega⟩
    have hc := cntS_le up i
    have hs := cntS_succ up i
    have hge : 2 ≤ cntS up (i + 1) := by rw [hs]; omega
    have ih := sp_l0 t up hu d k (i + 1) (by omega) (by omega) hge (by omega)
    rw [hs, show UF.P up (i : Int) = rd up (i : Int) from rfl] at ih
    simp only [spec_TriSurface.l0]
    rw [if_pos (by omega), if_pos (by omega), bit_eq, Option.bind_some, w_id (a := (i : Int) + 1) (by omega) (by omega), show ((i : Int) + 1) = ((i + 1 : Nat) : Int) by omega]
    by_cases h : rd up (i : Int) = (i : Int)
    · rw [if_pos (by simp [h]), w_id (by omega) (by omega)]
      rw [if_pos h] at ih
      rw [show ((cntS up i : Int) - 2 + 1) = ((cntS up i + 1 : Nat) : Int) - 2 by omega]
      exact ih
    · rw [if_neg (by simp [h]), w_id (by omega) (by omega)]
      rw [if_neg h, Nat.add_zero] at ih
      rw [Int.add_zero]
      exact ih
theorem surf_both (t : List (List Int)) (ht : t.length ≤ 1048576) (hr : ∀ r ∈ t, r.length ≤ 1048576) (k : Nat) (hk : 7000000 < k) : ∃ r, impl_TriSurface.f k t = some r ∧ spec_TriSurface.f k t = some r := by
  unfold impl_TriSurface.f spec_TriSurface.f
  rw [impl_isT t ht k (by omega), spec_isT t ht k (by omega), Option.bind_some, Option.bind_some]
  obtain ⟨k1, rfl⟩ : ∃ m, k = m + 1 := ⟨k - 1, by omega⟩
  by_cases h : isT t = true
  · have ok := isT_ok ht h
    obtain ⟨m, hm⟩ : ∃ m : Nat, edges t = (m : Int) := ⟨(edges t).toNat, by have := ok.n3; omega⟩
    rw [hm] at ok
    clear hm
    have hs := ok.short
    have hl := ok.len
    obtain ⟨fs, e1, sf⟩ := surf_l0 ok ht hr t.length 0 (k1 + 1) (UF.alone t.length) [] (by omega) (by omega) (UF.alone_stands t.length)
    rw [List.nil_append] at sf
    obtain ⟨qs, e2, sq⟩ := part_f ok (k1 + 1) (by omega)
    obtain ⟨vs, e3, sv⟩ := vert_f ok ht hr (k1 + 1) (by omega)
    obtain ⟨us, e4, se⟩ := ends_f ok k1 (by omega)
    obtain ⟨⟨p0, p1⟩, hc⟩ := ends_count ok se sv
    have hK : (UF.roots qs).length = (UF.roots fs).length := by
      have := (UF.roots_perm sq sf (part_cls ok)).length_eq
      rwa [List.length_map] at this
    have hE := tri_euler ok sv sf
    have lf := sf.len
    have lv := sv.len
    have lu := se.len
    have n1 := newJoiner_f t.length (by omega) (k1 + 1) (by omega)
    have e1' : impl_TriSurface.l0 (k1 + 1) t (UF.alone t.length) 0 = some fs := e1
    have c1 := countS_f fs (by omega) (k1 + 1) (by omega)
    have c2 := countS_f vs (by omega) (k1 + 1) (by omega)
    rw [if_pos h, if_pos h, n1, Option.bind_some, e1', Option.bind_some, e2, Option.bind_some]
    unfold impl_TriSurface.h
    rw [c1, Option.bind_some, hK]
    simp only [spec_TriSurface.j0]
    by_cases c : (UF.roots fs).length = 1
    · have hV : (UF.roots vs).length + t.length ≤ m + 2 := by omega
      have sw := surf_with (V := (UF.roots vs).length) (F := t.length) (m := m) (by omega) (by omega) hV hE.2
      have z2 : cntS us 2 = 2 := by
        rw [show (2 : Nat) = 1 + 1 from rfl, cntS_succ, show (1 : Nat) = 0 + 1 from rfl, cntS_succ]
        have q0 : UF.P us ((0 : Nat) : Int) = ((0 : Nat) : Int) := p0
        have q1 : UF.P us ((0 + 1 : Nat) : Int) = ((0 + 1 : Nat) : Int) := p1
        rw [if_pos q0, if_pos q1]
        rfl
      have sp := sp_l0 t us (by omega) (us.length - 2) k1 2 (by omega) (by omega) (by omega) (by omega)
      rw [z2] at sp
      have sp' : spec_TriSurface.l0 k1 t us 0 2 = _ := sp
      refine ⟨((2 + (m : Int) - ((UF.roots vs).length : Int) - (t.length : Int)) / 2, 0, 0, ((UF.roots vs).length : Int), true), ?_, ?_⟩
      · rw [if_pos (by omega), e3, Option.bind_some, c2, Option.bind_some]
        unfold impl_TriSurface.g
        rw [sw, Option.bind_some, if_pos rfl]
      · have b0 : 0 ≤ 2 + (m : Int) - ((UF.roots vs).length : Int) - (t.length : Int) := by omega
        have x1 : ((UF.roots us).length : Int) - 2 = ((UF.roots vs).length : Int) := by omega
        have x2 : (t.length : Int) / 2 = (m : Int) - (t.length : Int) := by omega
        have x3 : 2 - ((UF.roots vs).length : Int) + ((m : Int) - (t.length : Int)) = 2 + (m : Int) - ((UF.roots vs).length : Int) - (t.length : Int) := by omega
        have y1 : wrap64 (2 - ((UF.roots vs).length : Int)) = 2 - ((UF.roots vs).length : Int) := w_id (by omega) (by omega)
        have y2 : wrap64 ((m : Int) - (t.length : Int)) = (m : Int) - (t.length : Int) := w_id (by omega) (by omega)
        have y3 : wrap64 (2 + (m : Int) - ((UF.roots vs).length : Int) - (t.length : Int)) = 2 + (m : Int) - ((UF.roots vs).length : Int) - (t.length : Int) := w_id (by omega) (by omega)
        have y4 : wrap64 ((2 + (m : Int) - ((UF.roots vs).length : Int) - (t.length : Int)) / 2) = (2 + (m : Int) - ((UF.roots vs).length : Int) - (t.length : Int)) / 2 := w_id (by omega) (by omega)
        rw [c, if_neg (by decide), e4, Option.bind_some, sp', x1, x2, y1, y2, x3, y3, Int.tdiv_eq_ediv_of_nonneg b0, y4]
    · refine ⟨(0, 0, 0, 0, false), ?_, ?_⟩
      · rw [if_neg (by omega)]
      · rw [if_pos]
        rw [bne_iff_ne]
        omega
  · rw [if_neg h, if_neg h]
    refine ⟨(0, 0, 0, 0, false), rfl, ?_⟩
    simp only [spec_TriSurface.j0]
    rw [if_pos trivial]
end Go.Proofs.Ytjmhcbilefnhdaa.L

namespace Go.Proofs.Ytjmhcbilefnhdaa.L
open Go.RowKit Go.Proofs.Ytjmhcbilefnhdaa.P Go.Proofs.Ytjmhcbilefnhdaa.Help Go.Proofs.YtjmhcbilefnhdaaW.PrintWords
set_option linter.unusedVariables false
set_option linter.unusedSimpArgs false

theorem szIntS_f (r : List Int) (hr : r.length ≤ 9223372036854775807) (a : Int) (h0 : 0 ≤ a) (h1 : a ≤ 1048576) : laws_szIntS.f r a = some (if a - r.length < 0 then -1 else a - r.length) := by
  unfold laws_szIntS.f
  rw [w_id (by omega) (by omega)]
  split <;> rfl
theorem szIntSS_l0 (xs : List (List Int)) (hx : xs.length ≤ 1048576) (hr : ∀ r ∈ xs, r.length ≤ 9223372036854775807) : ∀ (d k i : Nat) (a : Int), i + d = xs.length → d < k → 0 ≤ a → a ≤ 1048576 → ∃ t, laws_szIntSS.l0 k xs a (i : Int) = some t ∧ (0 ≤ t → (∀ r ∈ xs.drop i, r.length ≤ 1048576) ∧ t + tot (xs.drop i) = a) := by
  intro d
  induction d with
  | zero =>
    intro k i a hi hk h0 h1
    obtain ⟨k, rfl⟩ : ∃ m, k = m + 1 := ⟨k - 1, by omega⟩
    simp only [laws_szIntSS.l0]
    rw [if_neg (by omega), List.drop_of_length_le (by omega)]
    exact ⟨a, rfl, fun _ => ⟨fun r hr => by simp at hr, by simp [tot]⟩⟩
  | succ d ih =>
    intro k i a hi hk h0 h1
    obtain ⟨k, rfl⟩ : ∃ m, k = m + 1 := ⟨k - 1, by omega⟩
    have hlt : i < xs.length := by omega
    simp only [laws_szIntSS.l0]
    rw [if_pos (by omega), if_pos (by omega), rdL_nat xs i hlt, szIntS_f _ (hr _ (List.getElem_mem hlt)) a h0 h1, Option.bind_some]
    by_cases h : a - (xs[i].length : Int) < 0
    · rw [if_pos h, if_pos (by decide)]
      exact ⟨-1, rfl, fun h => absurd h (by decide)⟩
    · rw [if_neg h, if_neg h, w_id (by omega) (by omega), show ((i : Int) + 1) = ((i + 1 : Nat) : Int) by omega]
      obtain ⟨t, ht, hd⟩ := ih k (i + 1) (a - xs[i].length) (by omega) (by omega) (by omega) (by omega)
      refine ⟨t, ht, fun h2 => ⟨fun r hr => ?_, ?_⟩⟩
      · rw [List.drop_eq_getElem_cons hlt] at hr
        rcases List.mem_cons.1 hr with rfl | hr
        · omega
        · exact (hd h2).1 r hr
      · rw [List.drop_eq_getElem_cons hlt, tot]
        have := (hd h2).2
        omega
theorem szIntSS_f (xs : List (List Int)) (hx : xs.length ≤ 9223372036854775807) (hr : ∀ r ∈ xs, r.length ≤ 9223372036854775807) (a : Int) (h0 : 0 ≤ a) (h1 : a ≤ 1048576) (k : Nat) (hk : 1048577 < k) : ∃ t, laws_szIntSS.f k xs a = some t ∧ (0 ≤ t → xs.length ≤ 1048576 ∧ (∀ r ∈ xs, r.length ≤ 1048576) ∧ tot xs ≤ 1048576) := by
  unfold laws_szIntSS.f
  rw [w_id (by omega) (by omega)]
  by_cases h : a - (xs.length : Int) < 0
  · rw [if_pos h]
    exact ⟨-1, rfl, fun h => absurd h (by decide)⟩
  · rw [if_neg h]
    obtain ⟨t, ht, hd⟩ := szIntSS_l0 xs (by omega) hr xs.length k 0 (a - xs.length) (by omega) (by omega) (by omega) (by omega)
    refine ⟨t, ht, fun h2 => ⟨by omega, ?_⟩⟩
    have := hd h2
    rw [List.drop_zero] at this
    exact ⟨this.1, by omega⟩
theorem toIntSS_l0 (xs : List (List Int)) (hx : xs.length ≤ 1048576) (hr : ∀ r ∈ xs, r.length ≤ 1048576) : ∀ (d k i : Nat) (ys : List (List Int)), i + d = xs.length → d + 1048577 < k → ys.length = xs.length → ys.take i = xs.take i → laws_toIntSS.l0 k xs ys (i : Int) = some xs := by
  intro d
  induction d with
  | zero =>
    intro k i ys hi hk hl ht
    obtain ⟨k, rfl⟩ : ∃ m, k = m + 1 := ⟨k - 1, by omega⟩
    simp only [laws_toIntSS.l0]
    rw [if_neg (by omega)]
    rw [List.take_of_length_le (by omega), List.take_of_length_le (by omega)] at ht
    rw [ht]
  | succ d ih =>
    intro k i ys hi hk hl ht
    obtain ⟨k, rfl⟩ : ∃ m, k = m + 1 := ⟨k - 1, by omega⟩
    have hlt : i < xs.length := by omega
    simp only [laws_toIntSS.l0]
    rw [if_pos (by omega), if_pos (by omega), rdL_nat xs i hlt, toIntS_f _ (hr _ (List.getElem_mem hlt)) k (by omega), Option.bind_some, if_pos (by omega), w_id (by omega) (by omega), show ((i : Int) + 1) = ((i + 1 : Nat) : Int) by omega, Int.toNat_natCast]
    refine ih k (i + 1) _ (by omega) (by omega) (by rw [List.length_set]; exact hl) ?_
    rw [List.take_succ_eq_append_getElem (by rw [List.length_set]; omega), List.take_succ_eq_append_getElem (by omega), List.getElem_set_self, List.take_set_of_le (by omega), ht]
theorem toIntSS_f (xs : List (List Int)) (hx : xs.length ≤ 1048576) (hr : ∀ r ∈ xs, r.length ≤ 1048576) (k : Nat) (hk : 3000000 < k) : laws_toIntSS.f k xs = some xs := by
  unfold laws_toIntSS.f
  rw [if_pos (by omega), if_pos (by omega), Int.toNat_natCast]
  exact toIntSS_l0 xs (by omega) hr xs.length k 0 _ (by omega) (by omega) (by simp) (by simp)
theorem eqIntSS_l0 (xs : List (List Int)) (hx : xs.length ≤ 1048576) (hr : ∀ r ∈ xs, r.length ≤ 1048576) : ∀ (d k i : Nat), i + d = xs.length → d + 1048577 < k → laws_eqIntSS.l0 k xs xs (i : Int) = some true := by
  intro d
  induction d with
  | zero =>
    intro k i hi hk
    obtain ⟨k, rfl⟩ : ∃ m, k = m + 1 := ⟨k - 1, by omega⟩
    simp only [laws_eqIntSS.l0]
    rw [if_neg (by omega)]
  | succ d ih =>
    intro k i hi hk
    obtain ⟨k, rfl⟩ : ∃ m, k = m + 1 := ⟨k - 1, by omega⟩
    have hlt : i < xs.length := by omega
    simp only [laws_eqIntSS.l0]
    rw [if_pos (by omega), if_pos (by omega), if_pos (by omega), rdL_nat xs i hlt, eqIntS_self _ (hr _ (List.getElem_mem hlt)) k (by omega), Option.bind_some]
    rw [if_pos rfl, w_id (by omega) (by omega), show ((i : Int) + 1) = ((i + 1 : Nat) : Int) by omega, ih k (i + 1) (by omega) (by omega)]
theorem eqIntSS_self (xs : List (List Int)) (hx : xs.length ≤ 1048576) (hr : ∀ r ∈ xs, r.length ≤ 1048576) (k : Nat) (hk : 3000000 < k) : laws_eqIntSS.f k xs xs = some true := by
  unfold laws_eqIntSS.f
  rw [if_pos rfl]
  exact eqIntSS_l0 xs (by omega) hr xs.length k 0 (by omega) (by omega)
end Go.Proofs.Ytjmhcbilefnhdaa.L

namespace Go.Proofs.Ytjmhcbilefnhdaa.Pure
open Go.RowKit Go.Proofs.Ytjmhcbilefnhdaa.P Go.Proofs.Ytjmhcbilefnhdaa.Help Go.Proofs.Ytjmhcbilefnhdaa.L
theorem FnExactTriSurface : ∀ (l0 : List (List Int)), l0.length ≤ 9223372036854775807 → (∀ r ∈ l0, r.length ≤ 9223372036854775807) → (∀ r ∈ l0, ∀ x ∈ r, I64 x) → ∃ k, laws_FnExactTriSurface.f k l0 = some true := by
  intro t h1 h2 _
  refine ⟨10000000, ?_⟩
  unfold laws_FnExactTriSurface.f
  obtain ⟨z, hz, hb⟩ := szIntSS_f t h1 h2 1048576 (by decide) (by decide) 10000000 (by decide)
  rw [hz, Option.bind_some]
  by_cases h : z < 0
  · rw [if_pos h]
  · obtain ⟨b1, b2, b3⟩ := hb (by omega)
    obtain ⟨⟨r1, r2, r3, r4, r5⟩, g1, g2⟩ := surf_both t b1 b2 10000000 (by decide)
    have e0 := toIntSS_f t b1 b2 10000000 (by decide)
    have e4 := eqIntSS_self t b1 b2 10000000 (by decide)
    have e5 : laws_eqSurface.f r1 r2 r3 r1 r2 r3 = some true := by unfold laws_eqSurface.f; simp
    rw [if_neg h]
    simp only [Option.bind_some, e0, e4, e5, g1, g2, if_true, bne_self_eq_false, Bool.false_eq_true, if_false]
end Go.Proofs.Ytjmhcbilefnhdaa.Pure
