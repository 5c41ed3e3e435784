/- The program's SplitPath answers as the reference's, for all arguments; no condition. -/
import Derived.Test.YtjmgbaphlhimhaaQPx0
import Derived.Test.YtjmgbaphlhimhaaQHelp
import Derived.Test.YtjmgbaphlhimhaaQPx5
import Derived.Test.YtjmgbaphlhimhaaQPx12
import Derived.Test.YtjmgbaphlhimhaaQPx1
import Derived.Test.YtjmgbaphlhimhaaQPx8
import Derived.Test.YtjmgbaphlhimhaaQPx16
import Derived.Test.YtjmgbaphlhimhaaQPx2
import Derived.Test.YtjmgbaphlhimhaaQPx9
import Derived.Test.YtjmgbaphlhimhaaQPx13
import Derived.Test.YtjmgbaphlhimhaaQPx3
import Derived.Test.YtjmgbaphlhimhaaQPx4
import Derived.Test.YtjmgbaphlhimhaaQPx7
import Derived.Test.YtjmgbaphlhimhaaQPx14
import Derived.Test.YtjmgbaphlhimhaaQPx10
import Derived.Test.YtjmgbaphlhimhaaQPx11
import Derived.Test.YtjmgbaphlhimhaaQPx6
import Derived.Test.YtjmgbaphlhimhaaQPx15
import Derived.Test.YtjmgbaphlhimhaaQPx17
import Derived.Test.YtjmgbaphlhimhaaQPx19
import Derived.Test.YtjmgbaphlhimhaaQPx18
import Derived.Test.YtjmgbaphlhimhaaQPx20
import Derived.Test.YtjmgbaphlhimhaaQPx24
import Derived.Test.YtjmgbaphlhimhaaQPx25
import Derived.Test.YtjmgbaphlhimhaaQPx26
import Derived.Test.YtjmgbaphlhimhaaQPx27
import Derived.Test.YtjmgbaphlhimhaaQPx28
namespace Go.Proofs.Ytjmgbaphlhimhaa.UF
set_option linter.unusedVariables false

/-- The number that a number points to. -/
def P (up : List Int) (i : Int) : Int := up.getD i.toNat 0
/-- The way from i ends at r. -/
inductive Root (up : List Int) : Int → Int → Prop
  | here {r : Int} (h : P up r = r) : Root up r r
  | step {i r : Int} (h : P up i ≠ i) (k : Root up (P up i) r) : Root up i r
theorem Root.root {up : List Int} {i r : Int} (h : Root up i r) : P up r = r := by
  induction h with
  | here h => exact h
  | step _ _ ih => exact ih
theorem Root.uniq {up : List Int} {i r : Int} (h : Root up i r) : ∀ {s : Int}, Root up i s → r = s := by
  induction h with
  | here h =>
    intro s hs
    cases hs with
    | here _ => rfl
    | step h2 _ => exact absurd h h2
  | step h k ih =>
    intro s hs
    cases hs with
    | here h2 => exact absurd h2 h
    | step _ k2 => exact ih k2
/-- A forest: every number points to a number, every way ends. -/
def Ok (up : List Int) : Prop := ∀ i : Int, 0 ≤ i → i < up.length → (0 ≤ P up i ∧ P up i < up.length) ∧ ∃ r, Root up i r
theorem Ok.bd {up : List Int} (h : Ok up) {i r : Int} (hr : Root up i r) : 0 ≤ i → i < up.length → 0 ≤ r ∧ r < up.length := by
  induction hr with
  | here _ => exact fun h0 h1 => ⟨h0, h1⟩
  | step _ _ ih => exact fun h0 h1 => ih (h _ h0 h1).1.1 (h _ h0 h1).1.2
theorem P_set {up : List Int} {a b i : Int} (ha : 0 ≤ a) (ha1 : a < up.length) (hi : 0 ≤ i) : P (up.set a.toNat b) i = if i = a then b else P up i := by
  unfold P
  by_cases h : i = a
  · subst h
    rw [if_pos rfl, List.getD_eq_getElem?_getD, List.getElem?_set_self (by omega)]
    rfl
  · rw [if_neg h, List.getD_eq_getElem?_getD, List.getD_eq_getElem?_getD, List.getElem?_set_ne (by omega)]
theorem set_other {up : List Int} (hok : Ok up) {ra rb : Int} (ha : 0 ≤ ra ∧ ra < up.length) (hra : P up ra = ra) {i r : Int} (h : Root up i r) : 0 ≤ i → i < up.length → r ≠ ra → Root (up.set ra.toNat rb) i r := by
  induction h with
  | here h =>
    intro h0 h1 hne
    exact .here (by rw [P_set ha.1 ha.2 h0, if_neg hne]; exact h)
  | @step i r h k ih =>
    intro h0 h1 hne
    have hi : i ≠ ra := fun e => h (by rw [e]; exact hra)
    have hp : P (up.set ra.toNat rb) i = P up i := by rw [P_set ha.1 ha.2 h0, if_neg hi]
    exact .step (by rw [hp]; exact h) (by rw [hp]; exact ih (hok i h0 h1).1.1 (hok i h0 h1).1.2 hne)
theorem set_same {up : List Int} (hok : Ok up) {ra rb : Int} (ha : 0 ≤ ra ∧ ra < up.length) (hb : 0 ≤ rb ∧ rb < up.length) (hra : P up ra = ra) (hrb : P up rb = rb) {i r : Int} (h : Root up i r) : 0 ≤ i → i < up.length → r = ra → Root (up.set ra.toNat rb) i rb := by
  induction h with
  | @here r h =>
    intro h0 h1 e
    subst e
    by_cases hab : r = rb
    · subst hab
      exact .here (by rw [P_set ha.1 ha.2 h0, if_pos rfl])
    · have hp : P (up.set r.toNat rb) r = rb := by rw [P_set ha.1 ha.2 h0, if_pos rfl]
      refine .step (by rw [hp]; exact fun e => hab e.symm) ?_
      rw [hp]
      exact set_other hok ha hra (.here hrb) hb.1 hb.2 (fun e => hab e.symm)
  | @step i r h k ih =>
    intro h0 h1 e
    have hi : i ≠ ra := fun e => h (by rw [e]; exact hra)
    have hp : P (up.set ra.toNat rb) i = P up i := by rw [P_set ha.1 ha.2 h0, if_neg hi]
    exact .step (by rw [hp]; exact h) (by rw [hp]; exact ih (hok i h0 h1).1.1 (hok i h0 h1).1.2 e)
theorem Ok.set {up : List Int} (hok : Ok up) {ra rb : Int} (ha : 0 ≤ ra ∧ ra < up.length) (hb : 0 ≤ rb ∧ rb < up.length) (hra : P up ra = ra) (hrb : P up rb = rb) : Ok (up.set ra.toNat rb) := by
  intro i h0 h1
  rw [List.length_set] at h1
  refine ⟨?_, ?_⟩
  · rw [P_set ha.1 ha.2 h0, List.length_set]
    split
    · exact hb
    · exact (hok i h0 h1).1
  · obtain ⟨r, hr⟩ := (hok i h0 h1).2
    by_cases e : r = ra
    · exact ⟨rb, set_same hok ha hb hra hrb hr h0 h1 e⟩
    · exact ⟨r, set_other hok ha hra hr h0 h1 e⟩
/-- Two numbers of one class. -/
def Same (up : List Int) (i j : Int) : Prop := ∃ r, Root up i r ∧ Root up j r
/-- Being of one class, as pairs make it, among the numbers below n. -/
inductive Cls (n : Int) (ps : List (Int × Int)) : Int → Int → Prop
  | refl {i : Int} (h0 : 0 ≤ i) (h1 : i < n) : Cls n ps i i
  | pair {i j : Int} (h : (i, j) ∈ ps) (h0 : 0 ≤ i) (h1 : i < n) (h2 : 0 ≤ j) (h3 : j < n) : Cls n ps i j
  | symm {i j : Int} (h : Cls n ps i j) : Cls n ps j i
  | trans {i j k : Int} (h : Cls n ps i j) (h2 : Cls n ps j k) : Cls n ps i k
theorem Cls.bd {n : Int} {ps : List (Int × Int)} {i j : Int} (h : Cls n ps i j) : (0 ≤ i ∧ i < n) ∧ (0 ≤ j ∧ j < n) := by
  induction h with
  | refl h0 h1 => exact ⟨⟨h0, h1⟩, h0, h1⟩
  | pair _ h0 h1 h2 h3 => exact ⟨⟨h0, h1⟩, h2, h3⟩
  | symm _ ih => exact ⟨ih.2, ih.1⟩
  | trans _ _ ih1 ih2 => exact ⟨ih1.1, ih2.2⟩
theorem Cls.mono {n : Int} {ps qs : List (Int × Int)} (hs : ∀ p, p ∈ ps → p ∈ qs) {i j : Int} (h : Cls n ps i j) : Cls n qs i j := by
  induction h with
  | refl h0 h1 => exact .refl h0 h1
  | pair h h0 h1 h2 h3 => exact .pair (hs _ h) h0 h1 h2 h3
  | symm _ ih => exact .symm ih
  | trans _ _ ih1 ih2 => exact .trans ih1 ih2
/-- The forest that stands for pairs. -/
structure Stands (up : List Int) (n : Int) (ps : List (Int × Int)) : Prop where
  ok : Ok up
  len : (up.length : Int) = n
  cls : ∀ i j, Cls n ps i j ↔ (0 ≤ i ∧ i < n) ∧ (0 ≤ j ∧ j < n) ∧ Same up i j
theorem Stands.join {up : List Int} {n : Int} {ps : List (Int × Int)} (h : Stands up n ps) {a b ra rb : Int} (ha : 0 ≤ a ∧ a < n) (hb : 0 ≤ b ∧ b < n) (hra : Root up a ra) (hrb : Root up b rb) :
    Stands (up.set ra.toNat rb) n (ps ++ [(a, b)]) ∧ Stands (up.set rb.toNat ra) n (ps ++ [(a, b)]) := by
  have hl := h.len
  have gen : ∀ (x y rx ry : Int), 0 ≤ x ∧ x < n → 0 ≤ y ∧ y < n → Root up x rx → Root up y ry → (∀ i j, Cls n (ps ++ [(a, b)]) i j ↔ Cls n (ps ++ [(x, y)]) i j) → Stands (up.set rx.toNat ry) n (ps ++ [(a, b)]) := by
    intro x y rx ry hx hy hrx hry heq
    have bx := h.ok.bd hrx hx.1 (by omega)
    have by' := h.ok.bd hry hy.1 (by omega)
    have hok := h.ok.set bx by' hrx.root hry.root
    refine ⟨hok, by rw [List.length_set]; exact hl, fun i j => ?_⟩
    rw [heq]
    constructor
    · intro hc
      refine ⟨hc.bd.1, hc.bd.2, ?_⟩
      induction hc with
      | @refl i h0 h1 =>
        obtain ⟨r, hr⟩ := (hok i h0 (by rw [List.length_set]; omega)).2
        exact ⟨r, hr, hr⟩
      | @pair i j hp h0 h1 h2 h3 =>
        rcases List.mem_append.1 hp with hp | hp
        · obtain ⟨r, r1, r2⟩ := ((h.cls i j).1 (.pair hp h0 h1 h2 h3)).2.2
          by_cases e : r = rx
          · exact ⟨ry, set_same h.ok bx by' hrx.root hry.root r1 h0 (by omega) e, set_same h.ok bx by' hrx.root hry.root r2 h2 (by omega) e⟩
          · exact ⟨r, set_other h.ok bx hrx.root r1 h0 (by omega) e, set_other h.ok bx hrx.root r2 h2 (by omega) e⟩
        · have : (i, j) = (x, y) := by simpa using hp
          obtain ⟨rfl, rfl⟩ := Prod.mk.inj this
          refine ⟨ry, set_same h.ok bx by' hrx.root hry.root hrx h0 (by omega) rfl, ?_⟩
          by_cases e : ry = rx
          · exact set_same h.ok bx by' hrx.root hry.root hry h2 (by omega) e
          · exact set_other h.ok bx hrx.root hry h2 (by omega) e
      | symm _ ih => obtain ⟨r, r1, r2⟩ := ih; exact ⟨r, r2, r1⟩
      | trans _ _ ih1 ih2 =>
        obtain ⟨r, r1, r2⟩ := ih1
        obtain ⟨s, s1, s2⟩ := ih2
        obtain rfl := r2.uniq s1
        exact ⟨r, r1, s2⟩
    · rintro ⟨hi, hj, s, s1, s2⟩
      have old : ∀ i, 0 ≤ i ∧ i < n → Root (up.set rx.toNat ry) i s → ∃ r, Root up i r ∧ (r = rx ∧ s = ry ∨ r ≠ rx ∧ s = r) := by
        intro i hi hs
        obtain ⟨r, hr⟩ := (h.ok i hi.1 (by omega)).2
        refine ⟨r, hr, ?_⟩
        by_cases e : r = rx
        · exact .inl ⟨e, hs.uniq (set_same h.ok bx by' hrx.root hry.root hr hi.1 (by omega) e)⟩
        · exact .inr ⟨e, hs.uniq (set_other h.ok bx hrx.root hr hi.1 (by omega) e)⟩
      have up' : ∀ {i j}, Cls n ps i j → Cls n (ps ++ [(x, y)]) i j := fun hc => hc.mono (fun p hp => List.mem_append_left _ hp)
      have hxy : Cls n (ps ++ [(x, y)]) x y := .pair (by simp) hx.1 hx.2 hy.1 hy.2
      obtain ⟨r1, q1, c1⟩ := old i hi s1
      obtain ⟨r2, q2, c2⟩ := old j hj s2
      have same : ∀ {u v r}, 0 ≤ u ∧ u < n → 0 ≤ v ∧ v < n → Root up u r → Root up v r → Cls n (ps ++ [(x, y)]) u v := fun hu hv a1 a2 => up' ((h.cls _ _).2 ⟨hu, hv, _, a1, a2⟩)
      rcases c1 with ⟨e1, f1⟩ | ⟨e1, f1⟩
      · subst e1
        rcases c2 with ⟨e2, f2⟩ | ⟨e2, f2⟩
        · subst e2
          exact same hi hj q1 q2
        · have : r2 = ry := by rw [← f2]; exact f1
          subst this
          exact (same hi hx q1 hrx).trans (hxy.trans (same hy hj hry q2))
      · rcases c2 with ⟨e2, f2⟩ | ⟨e2, f2⟩
        · subst e2
          have : r1 = ry := by rw [← f1]; exact f2
          subst this
          exact (same hi hy q1 hry).trans (hxy.symm.trans (same hx hj hrx q2))
        · have : r1 = r2 := by rw [← f1]; exact f2
          subst this
          exact same hi hj q1 q2
  refine ⟨gen a b ra rb ha hb hra hrb (fun _ _ => Iff.rfl), gen b a rb ra hb ha hrb hra (fun i j => ?_)⟩
  have swap : ∀ {u v : Int} {i j : Int}, Cls n (ps ++ [(u, v)]) i j → Cls n (ps ++ [(v, u)]) i j := by
    intro u v i j hc
    induction hc with
    | refl h0 h1 => exact .refl h0 h1
    | @pair i j hp h0 h1 h2 h3 =>
      rcases List.mem_append.1 hp with hp | hp
      · exact .pair (List.mem_append_left _ hp) h0 h1 h2 h3
      · have : (i, j) = (u, v) := by simpa using hp
        obtain ⟨rfl, rfl⟩ := Prod.mk.inj this
        exact .symm (.pair (by simp) h2 h3 h0 h1)
    | symm _ ih => exact .symm ih
    | trans _ _ ih1 ih2 => exact .trans ih1 ih2
  exact ⟨swap, swap⟩
/-- The numbers from 0 on, each for itself. -/
def alone (n : Nat) : List Int := (List.range n).map fun (i : Nat) => (i : Int)
theorem alone_P (n : Nat) (i : Int) (h0 : 0 ≤ i) (h1 : i < n) : P (alone n) i = i := by
  unfold P alone
  rw [List.getD_eq_getElem?_getD, List.getElem?_map, List.getElem?_range (by omega)]
  simp
  omega
theorem alone_stands (n : Nat) : Stands (alone n) n [] := by
  have hlen : (alone n).length = n := by simp [alone]
  have hok : Ok (alone n) := by
    intro i h0 h1
    rw [hlen] at h1 ⊢
    have := alone_P n i h0 h1
    exact ⟨by omega, i, .here this⟩
  refine ⟨hok, by rw [hlen], fun i j => ?_⟩
  constructor
  · intro hc
    refine ⟨hc.bd.1, hc.bd.2, ?_⟩
    have : i = j := by
      induction hc with
      | refl _ _ => rfl
      | pair h _ _ _ _ => cases h
      | symm _ ih => exact ih.symm
      | trans _ _ ih1 ih2 => exact ih1.trans ih2
    subst this
    exact ⟨i, .here (alone_P n i hc.bd.1.1 hc.bd.1.2), .here (alone_P n i hc.bd.1.1 hc.bd.1.2)⟩
  · rintro ⟨hi, hj, r, r1, r2⟩
    have e1 := r1.uniq (.here (alone_P n i hi.1 hi.2))
    have e2 := r2.uniq (.here (alone_P n j hj.1 hj.2))
    have : i = j := by rw [← e1, ← e2]
    subst this
    exact .refl hi.1 hi.2
end Go.Proofs.Ytjmgbaphlhimhaa.UF

namespace Go.Proofs.Ytjmgbaphlhimhaa.UF
set_option linter.unusedVariables false
/-- The root of a number's class. -/
noncomputable def rt (up : List Int) (i : Int) : Int := by
  classical
  exact if h : ∃ r, Root up i r then h.choose else i
theorem rt_of {up : List Int} {i r : Int} (h : Root up i r) : rt up i = r := by
  have hx : ∃ r, Root up i r := ⟨r, h⟩
  unfold rt
  rw [dif_pos hx]
  exact hx.choose_spec.uniq h
theorem Ok.rt {up : List Int} (h : Ok up) {i : Int} (h0 : 0 ≤ i) (h1 : i < up.length) : Root up i (UF.rt up i) := by
  obtain ⟨r, hr⟩ := (h i h0 h1).2
  rw [rt_of hr]
  exact hr
theorem map_nodup {α β : Type} (f : α → β) : ∀ {l : List α}, l.Nodup → (∀ a b, a ∈ l → b ∈ l → f a = f b → a = b) → (l.map f).Nodup
  | [], _, _ => List.nodup_nil
  | x :: t, h, hf => by
    have h' := List.nodup_cons.1 h
    rw [List.map_cons, List.nodup_cons]
    refine ⟨fun hc => ?_, map_nodup f h'.2 (fun a b ha hb => hf a b (List.mem_cons_of_mem _ ha) (List.mem_cons_of_mem _ hb))⟩
    obtain ⟨y, hy, e⟩ := List.mem_map.1 hc
    have := hf y x (List.mem_cons_of_mem _ hy) List.mem_cons_self e
    subst this
    exact h'.1 hy
/-- How many numbers have this root. -/
noncomputable def csize (up : List Int) (r : Int) : Nat := ((List.range up.length).filter fun (k : Nat) => decide (rt up (k : Int) = r)).length
end Go.Proofs.Ytjmgbaphlhimhaa.UF

namespace Go.Proofs.Ytjmgbaphlhimhaa.UF
set_option linter.unusedVariables false
theorem Cls.map {n1 n2 : Int} {p1 p2 : List (Int × Int)} (f : Int → Int) (hf : ∀ i, 0 ≤ i → i < n1 → 0 ≤ f i ∧ f i < n2) (hp : ∀ i j, (i, j) ∈ p1 → 0 ≤ i → i < n1 → 0 ≤ j → j < n1 → Cls n2 p2 (f i) (f j)) {i j : Int} (h : Cls n1 p1 i j) : Cls n2 p2 (f i) (f j) := by
  induction h with
  | refl h0 h1 =>
    have := hf _ h0 h1
    exact .refl this.1 this.2
  | pair h h0 h1 h2 h3 => exact hp _ _ h h0 h1 h2 h3
  | symm _ ih => exact ih.symm
  | trans _ _ ih1 ih2 => exact ih1.trans ih2
theorem Stands.same_iff {up : List Int} {n : Int} {ps : List (Int × Int)} (h : Stands up n ps) {i j : Int} (hi : 0 ≤ i ∧ i < n) (hj : 0 ≤ j ∧ j < n) : rt up i = rt up j ↔ Cls n ps i j := by
  have hl := h.len
  have ri := h.ok.rt hi.1 (by omega)
  have rj := h.ok.rt hj.1 (by omega)
  rw [h.cls]
  constructor
  · intro e
    exact ⟨hi, hj, _, ri, by rw [e]; exact rj⟩
  · rintro ⟨_, _, s, s1, s2⟩
    rw [rt_of s1, rt_of s2]
/-- How long a way to a root can be: as long as the forest. -/
inductive Way (up : List Int) : Nat → Int → Int → Prop
  | here {r : Int} (h : P up r = r) : Way up 0 r r
  | step {k : Nat} {i r : Int} (h : P up i ≠ i) (w : Way up k (P up i) r) : Way up (k + 1) i r
theorem Root.way {up : List Int} {i r : Int} (h : Root up i r) : ∃ k, Way up k i r := by
  induction h with
  | here h => exact ⟨0, .here h⟩
  | step h _ ih =>
    obtain ⟨k, hk⟩ := ih
    exact ⟨k + 1, .step h hk⟩
theorem Way.root {up : List Int} {k : Nat} {i r : Int} (h : Way up k i r) : Root up i r := by
  induction h with
  | here h => exact .here h
  | step h _ ih => exact .step h ih
theorem Way.uniq {up : List Int} {k : Nat} {i r : Int} (h : Way up k i r) : ∀ {m : Nat} {s : Int}, Way up m i s → k = m := by
  induction h with
  | here h =>
    intro m s hs
    cases hs with
    | here _ => rfl
    | step h2 _ => exact absurd h h2
  | step h _ ih =>
    intro m s hs
    cases hs with
    | here h2 => exact absurd h2 h
    | step _ k2 => rw [ih k2]
/-- The numbers on a way. -/
def path (up : List Int) : Nat → Int → List Int
  | 0, i => [i]
  | k + 1, i => i :: path up k (P up i)
theorem path_len (up : List Int) : ∀ k i, (path up k i).length = k + 1
  | 0, _ => rfl
  | k + 1, i => by rw [path, List.length_cons, path_len up k]
theorem Way.nodup {up : List Int} {k : Nat} {i r : Int} (h : Way up k i r) : (path up k i).Nodup ∧ ∀ x, x ∈ path up k i → ∃ m, m ≤ k ∧ Way up m x r := by
  induction h with
  | @here r h =>
    refine ⟨by simp [path], fun x hx => ?_⟩
    have : x = r := by simpa [path] using hx
    subst this
    exact ⟨0, Nat.le_refl _, .here h⟩
  | @step k i r h w ih =>
    refine ⟨?_, fun x hx => ?_⟩
    · rw [path, List.nodup_cons]
      refine ⟨fun hc => ?_, ih.1⟩
      obtain ⟨m, hm, hw⟩ := ih.2 _ hc
      have := hw.uniq (Way.step h w)
      omega
    · rw [path] at hx
      rcases List.mem_cons.1 hx with e | e
      · subst e
        exact ⟨k + 1, Nat.le_refl _, .step h w⟩
      · obtain ⟨m, hm, hw⟩ := ih.2 _ e
        exact ⟨m, by omega, hw⟩
theorem Ok.path_bd {up : List Int} (hok : Ok up) : ∀ (k : Nat) (i : Int), 0 ≤ i → i < up.length → ∀ x, x ∈ path up k i → 0 ≤ x ∧ x < up.length
  | 0, i, h0, h1, x, hx => by
    have : x = i := by simpa [path] using hx
    omega
  | k + 1, i, h0, h1, x, hx => by
    rw [path] at hx
    rcases List.mem_cons.1 hx with e | e
    · omega
    · exact Ok.path_bd hok k _ (hok i h0 h1).1.1 (hok i h0 h1).1.2 x e
theorem Way.short {up : List Int} (hok : Ok up) {k : Nat} {i r : Int} (h : Way up k i r) (h0 : 0 ≤ i) (h1 : i < up.length) : k < up.length := by
  have hb := hok.path_bd k i h0 h1
  have hn := map_nodup (fun (x : Int) => x.toNat) h.nodup.1 (fun a b ha hb' e => by
    have := hb a ha
    have := hb b hb'
    have e' : a.toNat = b.toNat := e
    omega)
  have := List.Nodup.length_le_of_subset (l₂ := List.range up.length) hn (fun x hx => by
    obtain ⟨a, ha, rfl⟩ := List.mem_map.1 hx
    have := hb a ha
    exact List.mem_range.2 (by omega))
  rw [List.length_map, path_len, List.length_range] at this
  omega
/-- Every number has a way to its root that is shorter than the forest. -/
theorem Ok.way {up : List Int} (hok : Ok up) {i : Int} (h0 : 0 ≤ i) (h1 : i < up.length) : ∃ k, k < up.length ∧ Way up k i (UF.rt up i) := by
  obtain ⟨k, hk⟩ := (hok.rt h0 h1).way
  exact ⟨k, hk.short hok h0 h1, hk⟩
end Go.Proofs.Ytjmgbaphlhimhaa.UF


namespace Go.Proofs.Ytjmgbaphlhimhaa.L
open Go.RowKit Go.Proofs.Ytjmgbaphlhimhaa.P Go.Proofs.Ytjmgbaphlhimhaa.Help Go.Proofs.YtjmgbaphlhimhaaW.PrintWords
set_option linter.unusedVariables false
set_option linter.unusedSimpArgs false

theorem w_id {a : Int} (h0 : -9223372036854775808 ≤ a) (h1 : a ≤ 9223372036854775807) : wrap64 a = a := by unfold wrap64; omega
theorem rd_nat (xs : List Int) (i : Nat) (h : i < xs.length) : rd xs (i : Int) = xs[i] := by
  unfold rd
  simp [List.getD_eq_getElem?_getD, List.getElem?_eq_getElem h]
end Go.Proofs.Ytjmgbaphlhimhaa.L

namespace Go.Proofs.Ytjmgbaphlhimhaa.L
open Go.RowKit Go.Proofs.Ytjmgbaphlhimhaa.P Go.Proofs.Ytjmgbaphlhimhaa.Help Go.Proofs.YtjmgbaphlhimhaaW.PrintWords
set_option linter.unusedVariables false
set_option linter.unusedSimpArgs false

theorem top_way {up : List Int} (hok : UF.Ok up) {k : Nat} {i r : Int} (h : UF.Way up k i r) : ∀ m, k < m → 0 ≤ i → i < up.length → joiner_top.l0 m up i = some r := by
  induction h with
  | @here r h =>
    intro m hm h0 h1
    obtain ⟨m, rfl⟩ : ∃ q, m = q + 1 := ⟨m - 1, by omega⟩
    simp only [joiner_top.l0]
    rw [if_pos h0, if_pos h1, if_pos (show rd up r = r from h)]
  | @step k i r h w ih =>
    intro m hm h0 h1
    obtain ⟨m, rfl⟩ : ∃ q, m = q + 1 := ⟨m - 1, by omega⟩
    have hb := (hok i h0 h1).1
    simp only [joiner_top.l0]
    rw [if_pos h0, if_pos h1, if_neg (show ¬ rd up i = i from h)]
    exact ih m (by omega) hb.1 hb.2
theorem find_way {up : List Int} (hok : UF.Ok up) {k : Nat} {i r : Int} (h : UF.Way up k i r) : ∀ m, k < m → 0 ≤ i → i < up.length → spec_l3Find.l0 m up i = some r := by
  induction h with
  | @here r h =>
    intro m hm h0 h1
    obtain ⟨m, rfl⟩ : ∃ q, m = q + 1 := ⟨m - 1, by omega⟩
    simp only [spec_l3Find.l0]
    rw [if_pos h0, if_pos h1, if_pos (show rd up r = r from h)]
  | @step k i r h w ih =>
    intro m hm h0 h1
    obtain ⟨m, rfl⟩ : ∃ q, m = q + 1 := ⟨m - 1, by omega⟩
    have hb := (hok i h0 h1).1
    simp only [spec_l3Find.l0]
    rw [if_pos h0, if_pos h1, if_neg (show ¬ rd up i = i from h)]
    exact ih m (by omega) hb.1 hb.2
theorem top_f {up : List Int} (hok : UF.Ok up) {i : Int} (h0 : 0 ≤ i) (h1 : i < up.length) {m : Nat} (hm : up.length ≤ m) : joiner_top.l0 m up i = some (UF.rt up i) := by
  obtain ⟨k, hk, w⟩ := hok.way h0 h1
  exact top_way hok w m (by omega) h0 h1
theorem find3_f {up : List Int} (hok : UF.Ok up) {i : Int} (h0 : 0 ≤ i) (h1 : i < up.length) {m : Nat} (hm : up.length ≤ m) : spec_l3Find.f m up i = some (UF.rt up i) := by
  obtain ⟨k, hk, w⟩ := hok.way h0 h1
  exact find_way hok w m (by omega) h0 h1
theorem join_f {up : List Int} {n : Int} {ps : List (Int × Int)} (h : UF.Stands up n ps) {a b : Int} (ha : 0 ≤ a ∧ a < n) (hb : 0 ≤ b ∧ b < n) {m : Nat} (hm : up.length ≤ m) : ∃ ys, joiner_join.f m up a b = some ys ∧ UF.Stands ys n (ps ++ [(a, b)]) := by
  have hl := h.len
  have ra := h.ok.rt ha.1 (by omega)
  have rb := h.ok.rt hb.1 (by omega)
  have ba := h.ok.bd ra ha.1 (by omega)
  have bb := h.ok.bd rb hb.1 (by omega)
  have J := h.join ha hb ra rb
  unfold joiner_join.f
  rw [top_f h.ok ha.1 (by omega) hm, Option.bind_some, top_f h.ok hb.1 (by omega) hm, Option.bind_some]
  unfold joiner_join.put
  by_cases c : UF.rt up a > UF.rt up b
  · rw [if_pos c, if_pos ba.1, if_pos ba.2]
    exact ⟨_, rfl, J.1⟩
  · rw [if_neg c, if_pos bb.1, if_pos bb.2]
    exact ⟨_, rfl, J.2⟩
theorem alone_succ (n : Nat) : UF.alone (n + 1) = UF.alone n ++ [(n : Int)] := by
  unfold UF.alone
  rw [List.range_succ, List.map_append]
  rfl
theorem alone_len (n : Nat) : (UF.alone n).length = n := by simp [UF.alone]
theorem newJoiner_l0 (n : Nat) (hn : n ≤ 1000000) : ∀ (d k i : Nat), i + d = n → d < k → impl_newJoiner.l0 k (n : Int) (UF.alone i) (i : Int) = some (UF.alone n) := by
  intro d
  induction d with
  | zero =>
    intro k i hi hk
    obtain ⟨k, rfl⟩ : ∃ m, k = m + 1 := ⟨k - 1, by omega⟩
    simp only [impl_newJoiner.l0]
    rw [if_neg (by omega), show i = n by omega]
  | succ d ih =>
    intro k i hi hk
    obtain ⟨k, rfl⟩ : ∃ m, k = m + 1 := ⟨k - 1, by omega⟩
    simp only [impl_newJoiner.l0]
    rw [if_pos (by omega), if_pos (by rw [alone_len]; omega), w_id (by omega) (by omega), show ((i : Int) + 1) = ((i + 1 : Nat) : Int) by omega, ← alone_succ, ih k (i + 1) (by omega) (by omega)]
theorem newJoiner_f (n : Nat) (hn : n ≤ 1000000) (k : Nat) (hk : n < k) : impl_newJoiner.l0 k (n : Int) [] 0 = some (UF.alone n) := newJoiner_l0 n hn n k 0 (by omega) hk
/-- The pairs of all triangles, side by side. -/
def rowG (f : Nat → Nat → List (Int × Int)) (i : Nat) : Nat → Nat → List (Int × Int)
  | 0, _ => []
  | d + 1, j => f i j ++ rowG f i d (j + 1)
def allG (f : Nat → Nat → List (Int × Int)) : Nat → Nat → List (Int × Int)
  | 0, _ => []
  | d + 1, i => rowG f i 3 0 ++ allG f d (i + 1)
theorem mem_rowG {f : Nat → Nat → List (Int × Int)} {i : Nat} {p : Int × Int} : ∀ (d j : Nat), p ∈ rowG f i d j ↔ ∃ q, j ≤ q ∧ q < j + d ∧ p ∈ f i q
  | 0, j => by
    simp only [rowG, List.not_mem_nil, false_iff]
    rintro ⟨q, h1, h2, _⟩
    omega
  | d + 1, j => by
    rw [rowG, List.mem_append, mem_rowG d (j + 1)]
    constructor
    · rintro (h | ⟨q, h1, h2, h3⟩)
      · exact ⟨j, by omega, by omega, h⟩
      · exact ⟨q, by omega, by omega, h3⟩
    · rintro ⟨q, h1, h2, h3⟩
      by_cases e : q = j
      · subst e; exact .inl h3
      · exact .inr ⟨q, by omega, by omega, h3⟩
theorem mem_allG {f : Nat → Nat → List (Int × Int)} {p : Int × Int} : ∀ (d i : Nat), p ∈ allG f d i ↔ ∃ r, i ≤ r ∧ r < i + d ∧ ∃ q, q < 3 ∧ p ∈ f r q
  | 0, i => by
    simp only [allG, List.not_mem_nil, false_iff]
    rintro ⟨q, h1, h2, _⟩
    omega
  | d + 1, i => by
    rw [allG, List.mem_append, mem_rowG, mem_allG d (i + 1)]
    constructor
    · rintro (⟨q, _, h2, h3⟩ | ⟨r, h1, h2, h3⟩)
      · exact ⟨i, by omega, by omega, q, by omega, h3⟩
      · exact ⟨r, by omega, by omega, h3⟩
    · rintro ⟨r, h1, h2, q, h3, h4⟩
      by_cases e : r = i
      · subst e; exact .inl ⟨q, by omega, by omega, h4⟩
      · exact .inr ⟨r, by omega, by omega, q, h3, h4⟩
end Go.Proofs.Ytjmgbaphlhimhaa.L

namespace Go.Proofs.Ytjmgbaphlhimhaa.L
open Go.RowKit Go.Proofs.Ytjmgbaphlhimhaa.P Go.Proofs.Ytjmgbaphlhimhaa.Help Go.Proofs.YtjmgbaphlhimhaaW.PrintWords
set_option linter.unusedVariables false
set_option linter.unusedSimpArgs false

theorem l1In_eq (a lo hi : Int) : spec_l1In.f a lo hi = some (decide (lo ≤ a ∧ a ≤ hi)) := by
  unfold spec_l1In.f
  by_cases h : lo ≤ a <;> simp [h]
theorem within_eq (a lo hi : Int) : impl_within.f a lo hi = some (decide (lo ≤ a ∧ a ≤ hi)) := by
  unfold impl_within.f
  by_cases h : lo ≤ a <;> simp [h]
end Go.Proofs.Ytjmgbaphlhimhaa.L

namespace Go.Proofs.Ytjmgbaphlhimhaa.L
open Go.RowKit Go.Proofs.Ytjmgbaphlhimhaa.P Go.Proofs.Ytjmgbaphlhimhaa.Help Go.Proofs.YtjmgbaphlhimhaaW.PrintWords
set_option linter.unusedVariables false
set_option linter.unusedSimpArgs false

theorem toIntS_l0 (xs : List Int) (hx : xs.length ≤ 1000000000000) : ∀ (d k i : Nat) (ys : List Int), i + d = xs.length → d < k → ys.length = xs.length → ys.take i = xs.take i → laws_toIntS.l0 k xs ys (i : Int) = some xs := by
  intro d
  induction d with
  | zero =>
    intro k i ys hi hk hl ht
    obtain ⟨k, rfl⟩ : ∃ m, k = m + 1 := ⟨k - 1, by omega⟩
    simp only [laws_toIntS.l0]
    rw [if_neg (by omega)]
    rw [List.take_of_length_le (by omega), List.take_of_length_le (by omega)] at ht
    rw [ht]
  | succ d ih =>
    intro k i ys hi hk hl ht
    obtain ⟨k, rfl⟩ : ∃ m, k = m + 1 := ⟨k - 1, by omega⟩
    simp only [laws_toIntS.l0]
    rw [if_pos (by omega), if_pos (by omega), if_pos (by omega), w_id (by omega) (by omega), show ((i : Int) + 1) = ((i + 1 : Nat) : Int) by omega, Int.toNat_natCast, rd_nat xs i (by omega)]
    refine ih k (i + 1) _ (by omega) (by omega) (by rw [List.length_set]; exact hl) ?_
    rw [List.take_succ_eq_append_getElem (by rw [List.length_set]; omega), List.take_succ_eq_append_getElem (by omega), List.getElem_set_self, List.take_set_of_le (by omega), ht]
theorem toIntS_f (xs : List Int) (hx : xs.length ≤ 1048576) (k : Nat) (hk : 1048576 < k) : laws_toIntS.f k xs = some xs := by
  unfold laws_toIntS.f
  rw [if_pos (by omega), if_pos (by omega), Int.toNat_natCast]
  exact toIntS_l0 xs (by omega) xs.length k 0 _ (by omega) (by omega) (by simp) (by simp)
theorem eqIntS_l0 (xs : List Int) (hx : xs.length ≤ 1000000000000) : ∀ (d k i : Nat), i + d = xs.length → d < k → laws_eqIntS.l0 k xs xs (i : Int) = some true := by
  intro d
  induction d with
  | zero =>
    intro k i hi hk
    obtain ⟨k, rfl⟩ : ∃ m, k = m + 1 := ⟨k - 1, by omega⟩
    simp only [laws_eqIntS.l0]
    rw [if_neg (by omega)]
  | succ d ih =>
    intro k i hi hk
    obtain ⟨k, rfl⟩ : ∃ m, k = m + 1 := ⟨k - 1, by omega⟩
    simp only [laws_eqIntS.l0]
    rw [if_pos (by omega), if_pos (by omega), if_pos (by omega)]
    simp only [if_true]
    rw [w_id (by omega) (by omega), show ((i : Int) + 1) = ((i + 1 : Nat) : Int) by omega, ih k (i + 1) (by omega) (by omega)]
theorem eqIntS_self (xs : List Int) (hx : xs.length ≤ 1048576) (k : Nat) (hk : 1048576 < k) : laws_eqIntS.f k xs xs = some true := by
  unfold laws_eqIntS.f
  rw [if_pos rfl]
  exact eqIntS_l0 xs (by omega) xs.length k 0 (by omega) (by omega)
end Go.Proofs.Ytjmgbaphlhimhaa.L

namespace Go.Proofs.Ytjmgbaphlhimhaa.L
open Go.RowKit Go.Proofs.Ytjmgbaphlhimhaa.P Go.Proofs.Ytjmgbaphlhimhaa.Help Go.Proofs.YtjmgbaphlhimhaaW.PrintWords
set_option linter.unusedVariables false
set_option linter.unusedSimpArgs false

theorem rdL_nat (xs : List (List Int)) (i : Nat) (h : i < xs.length) : rd_L1 xs (i : Int) = xs[i] := by
  unfold rd_L1
  simp [List.getD_eq_getElem?_getD, List.getElem?_eq_getElem h]
end Go.Proofs.Ytjmgbaphlhimhaa.L

namespace Go.Proofs.Ytjmgbaphlhimhaa.L
open Go.RowKit Go.Proofs.Ytjmgbaphlhimhaa.P Go.Proofs.Ytjmgbaphlhimhaa.Help Go.Proofs.YtjmgbaphlhimhaaW.PrintWords
set_option linter.unusedVariables false
set_option linter.unusedSimpArgs false

/-- The letters of a row, put to those that are seen. -/
def rowR (n : Int) : List Int → List Int → Option (List Int)
  | seen, [] => some seen
  | seen, x :: xs => if x ≠ 0 ∧ (-n ≤ x ∧ x ≤ n) ∧ x ∉ seen then rowR n (x :: seen) xs else none
def triR (n : Int) : List Int → List (List Int) → Bool
  | _, [] => true
  | seen, r :: rs => if r.length = 3 then (match rowR n seen r with | some s => triR n s rs | none => false) else false
/-- The number of edges. -/
def edges (t : List (List Int)) : Int := wrap64 (Int.tdiv (wrap64 (3 * (t.length : Int))) 2)
def isT (t : List (List Int)) : Bool := if (t.length : Int) % 2 = 0 ∧ 3 ≤ edges t ∧ edges t ≤ 9 then triR (edges t) [] t else false

theorem impl_tri_l1 (t : List (List Int)) (n : Int) (hn : 3 ≤ n ∧ n ≤ 9) (i : Nat) (hi : i < t.length) (hl : t[i].length = 3) : ∀ (d j k : Nat) (seen : List Int), j + d = 3 → d < k →
    impl_IsTriangulation.l1 k t n seen (i : Int) (j : Int) = (match rowR n seen (t[i].drop j) with | some s => impl_IsTriangulation.l0 (k - d - 1) t n s (wrap64 ((i : Int) + 1)) | none => some false) := by
  intro d
  induction d with
  | zero =>
    intro j k seen hj hk
    obtain ⟨k, rfl⟩ : ∃ m, k = m + 1 := ⟨k - 1, by omega⟩
    simp only [impl_IsTriangulation.l1]
    rw [rdL_nat t i hi, if_neg (by omega), List.drop_of_length_le (by omega)]
    rfl
  | succ d ih =>
    intro j k seen hj hk
    obtain ⟨k, rfl⟩ : ∃ m, k = m + 1 := ⟨k - 1, by omega⟩
    have hlt : j < t[i].length := by omega
    simp only [impl_IsTriangulation.l1]
    rw [rdL_nat t i hi, if_pos (by omega), if_pos (by omega), rd_nat _ j hlt, within_eq, Option.bind_some, w_id (a := -n) (by omega) (by omega), List.drop_eq_getElem_cons hlt]
    by_cases h1 : t[i][j] = 0
    · rw [if_pos h1]
      simp [rowR, h1]
    · rw [if_neg h1]
      by_cases h2 : -n ≤ t[i][j] ∧ t[i][j] ≤ n
      · rw [if_pos (by simpa using h2)]
        by_cases h3 : t[i][j] ∈ seen
        · rw [if_pos h3]
          simp [rowR, h3]
        · rw [if_neg h3, w_id (a := (j : Int) + 1) (by omega) (by omega), show ((j : Int) + 1) = ((j + 1 : Nat) : Int) by omega, ih (j + 1) k _ (by omega) (by omega), rowR, if_pos ⟨h1, h2, h3⟩, show k + 1 - (d + 1) - 1 = k - d - 1 by omega]
      · rw [if_neg (by simpa using h2), rowR, if_neg (fun h => h2 h.2.1)]
theorem impl_tri_l0 (t : List (List Int)) (ht : t.length ≤ 1048600) (n : Int) (hn : 3 ≤ n ∧ n ≤ 9) : ∀ (d i k : Nat) (seen : List Int), i + d = t.length → 5 * d < k →
    impl_IsTriangulation.l0 k t n seen (i : Int) = some (triR n seen (t.drop i)) := by
  intro d
  induction d with
  | zero =>
    intro i k seen hi hk
    obtain ⟨k, rfl⟩ : ∃ m, k = m + 1 := ⟨k - 1, by omega⟩
    simp only [impl_IsTriangulation.l0]
    rw [if_neg (by omega), List.drop_of_length_le (by omega)]
    rfl
  | succ d ih =>
    intro i k seen hi hk
    obtain ⟨k, rfl⟩ : ∃ m, k = m + 1 := ⟨k - 1, by omega⟩
    have hlt : i < t.length := by omega
    simp only [impl_IsTriangulation.l0]
    rw [if_pos (by omega), if_pos (by omega), rdL_nat t i hlt, List.drop_eq_getElem_cons hlt, triR]
    by_cases h1 : t[i].length = 3
    · have := impl_tri_l1 t n hn i hlt h1 3 0 k seen (by omega) (by omega)
      rw [if_pos (by omega), if_pos h1, show (0 : Int) = ((0 : Nat) : Int) from rfl, this, List.drop_zero]
      cases rowR n seen t[i] with
      | none => rfl
      | some s =>
        show impl_IsTriangulation.l0 _ t n s _ = some (triR n s _)
        rw [w_id (by omega) (by omega), show ((i : Int) + 1) = ((i + 1 : Nat) : Int) by omega, ih (i + 1) _ s (by omega) (by omega)]
    · rw [if_neg (by omega), if_neg h1]
theorem impl_isT' (t : List (List Int)) (ht : t.length ≤ 1048600) (k : Nat) (hk : 6000000 < k) : impl_IsTriangulation.f k t = some (isT t) := by
  obtain ⟨k, rfl⟩ : ∃ m, k = m + 1 := ⟨k - 1, by omega⟩
  unfold impl_IsTriangulation.f
  rw [within_eq, Option.bind_some]
  unfold isT edges
  by_cases h1 : (t.length : Int) % 2 = 0
  · rw [if_pos h1]
    simp only [impl_IsTriangulation.j0]
    by_cases h2 : 3 ≤ wrap64 (Int.tdiv (wrap64 (3 * (t.length : Int))) 2) ∧ wrap64 (Int.tdiv (wrap64 (3 * (t.length : Int))) 2) ≤ 9
    · rw [if_neg (by simpa using h2), if_pos ⟨h1, h2⟩]
      have := impl_tri_l0 t ht _ h2 t.length 0 k [] (by omega) (by omega)
      rw [List.drop_zero] at this
      exact this
    · rw [if_pos (by rw [decide_eq_false h2]; rfl), if_neg (fun h => h2 h.2)]
  · rw [if_neg h1]
    simp only [impl_IsTriangulation.j0]
    rw [if_pos trivial, if_neg (fun h => h1 h.1)]
/-- What is marked is what is seen. -/
def Marks (n : Int) (x4 : List Bool) (seen : List Int) : Prop := (x4.length : Int) = 2 * n + 1 ∧ ∀ y, -n ≤ y → y ≤ n → rdOf false x4 (n + y) = decide (y ∈ seen)
theorem Marks.put {n : Int} {x4 : List Bool} {seen : List Int} (h : Marks n x4 seen) {x : Int} (hx : -n ≤ x ∧ x ≤ n) : Marks n (x4.set (n + x).toNat true) (x :: seen) := by
  obtain ⟨h1, h2⟩ := h
  refine ⟨by rw [List.length_set]; exact h1, fun y hy1 hy2 => ?_⟩
  have h3 := h2 y hy1 hy2
  unfold rdOf at h3 ⊢
  rw [List.getD_eq_getElem?_getD] at h3 ⊢
  rw [List.getElem?_set]
  by_cases e : (n + x).toNat = (n + y).toNat
  · have : x = y := by omega
    subst this
    rw [if_pos rfl, if_pos (by omega)]
    simp
  · have hne : y ≠ x := fun e' => e (by rw [e'])
    rw [if_neg e, h3]
    simp [hne]
theorem Marks.made {n : Int} (hn : 0 ≤ n) : Marks n (List.replicate (2 * n + 1).toNat false) [] := by
  refine ⟨by rw [List.length_replicate]; omega, fun y _ _ => ?_⟩
  unfold rdOf
  rw [List.getD_eq_getElem?_getD, List.getElem?_replicate]
  split <;> simp
theorem spec_tri_l1 (t : List (List Int)) (n : Int) (hn : 3 ≤ n ∧ n ≤ 9) (i : Nat) (hi : i < t.length) (hl : t[i].length = 3) : ∀ (d j k : Nat) (x4 : List Bool) (seen : List Int), Marks n x4 seen → j + d = 3 → d < k →
    (rowR n seen (t[i].drop j) = none ∧ spec_IsTriangulation.l1 k t n x4 (i : Int) (j : Int) = some false) ∨ ∃ s x4', rowR n seen (t[i].drop j) = some s ∧ Marks n x4' s ∧ spec_IsTriangulation.l1 k t n x4 (i : Int) (j : Int) = spec_IsTriangulation.l0 (k - d - 1) t n x4' (wrap64 ((i : Int) + 1)) := by
  intro d
  induction d with
  | zero =>
    intro j k x4 seen hm hj hk
    obtain ⟨k, rfl⟩ : ∃ m, k = m + 1 := ⟨k - 1, by omega⟩
    simp only [spec_IsTriangulation.l1]
    rw [if_neg (by omega), List.drop_of_length_le (by omega)]
    exact .inr ⟨seen, x4, rfl, hm, rfl⟩
  | succ d ih =>
    intro j k x4 seen hm hj hk
    obtain ⟨k, rfl⟩ : ∃ m, k = m + 1 := ⟨k - 1, by omega⟩
    have hlt : j < t[i].length := by omega
    simp only [spec_IsTriangulation.l1]
    rw [if_pos (by omega), if_pos (by omega), if_pos (by omega), if_pos (by omega), rdL_nat t i hi, if_pos (by omega), rd_nat _ j hlt, l1In_eq, Option.bind_some, w_id (a := -n) (by omega) (by omega), List.drop_eq_getElem_cons hlt]
    by_cases h1 : t[i][j] = 0
    · rw [if_pos h1]
      exact .inl ⟨by simp [rowR, h1], rfl⟩
    · rw [if_neg h1]
      by_cases h2 : -n ≤ t[i][j] ∧ t[i][j] ≤ n
      · have hx := hm.2 _ h2.1 h2.2
        have hlen := hm.1
        rw [if_pos (by simpa using h2), w_id (a := n + t[i][j]) (by omega) (by omega), if_pos (by omega), if_pos (by omega), hx]
        by_cases h3 : t[i][j] ∈ seen
        · rw [if_pos (by simpa using h3)]
          exact .inl ⟨by simp [rowR, h3], rfl⟩
        · rw [if_neg (by simpa using h3), w_id (a := (j : Int) + 1) (by omega) (by omega), show ((j : Int) + 1) = ((j + 1 : Nat) : Int) by omega, rowR, if_pos ⟨h1, h2, h3⟩, show k + 1 - (d + 1) - 1 = k - d - 1 by omega]
          exact ih (j + 1) k _ _ (hm.put h2) (by omega) (by omega)
      · rw [if_neg (by simpa using h2), rowR, if_neg (fun h => h2 h.2.1)]
        exact .inl ⟨rfl, rfl⟩
theorem spec_tri_l0 (t : List (List Int)) (ht : t.length ≤ 1048600) (n : Int) (hn : 3 ≤ n ∧ n ≤ 9) : ∀ (d i k : Nat) (x4 : List Bool) (seen : List Int), Marks n x4 seen → i + d = t.length → 5 * d < k →
    spec_IsTriangulation.l0 k t n x4 (i : Int) = some (triR n seen (t.drop i)) := by
  intro d
  induction d with
  | zero =>
    intro i k x4 seen hm hi hk
    obtain ⟨k, rfl⟩ : ∃ m, k = m + 1 := ⟨k - 1, by omega⟩
    simp only [spec_IsTriangulation.l0]
    rw [if_neg (by omega), List.drop_of_length_le (by omega)]
    rfl
  | succ d ih =>
    intro i k x4 seen hm hi hk
    obtain ⟨k, rfl⟩ : ∃ m, k = m + 1 := ⟨k - 1, by omega⟩
    have hlt : i < t.length := by omega
    simp only [spec_IsTriangulation.l0]
    rw [if_pos (by omega), if_pos (by omega), rdL_nat t i hlt, List.drop_eq_getElem_cons hlt, triR]
    by_cases h1 : t[i].length = 3
    · rw [if_pos (by omega), if_pos h1, show (0 : Int) = ((0 : Nat) : Int) from rfl]
      rcases spec_tri_l1 t n hn i hlt h1 3 0 k x4 seen hm (by omega) (by omega) with ⟨h2, h3⟩ | ⟨s, x4', h2, h3, h4⟩
      · rw [h3]
        rw [List.drop_zero] at h2
        rw [h2]
      · rw [h4]
        rw [List.drop_zero] at h2
        rw [h2, w_id (by omega) (by omega), show ((i : Int) + 1) = ((i + 1 : Nat) : Int) by omega]
        exact ih (i + 1) _ x4' s h3 (by omega) (by omega)
    · rw [if_neg (by omega), if_neg h1]
theorem spec_isT' (t : List (List Int)) (ht : t.length ≤ 1048600) (k : Nat) (hk : 6000000 < k) : spec_IsTriangulation.f k t = some (isT t) := by
  obtain ⟨k, rfl⟩ : ∃ m, k = m + 1 := ⟨k - 1, by omega⟩
  unfold spec_IsTriangulation.f
  rw [l1In_eq, Option.bind_some]
  unfold isT edges
  by_cases h1 : (t.length : Int) % 2 = 0
  · rw [if_pos h1]
    simp only [spec_IsTriangulation.j0]
    by_cases h2 : 3 ≤ wrap64 (Int.tdiv (wrap64 (3 * (t.length : Int))) 2) ∧ wrap64 (Int.tdiv (wrap64 (3 * (t.length : Int))) 2) ≤ 9
    · obtain ⟨n, hn⟩ : ∃ n : Int, wrap64 (Int.tdiv (wrap64 (3 * (t.length : Int))) 2) = n := ⟨_, rfl⟩
      rw [hn] at h2 ⊢
      rw [if_neg (by simpa using h2), if_pos (show (t.length : Int) % 2 = 0 ∧ 3 ≤ n ∧ n ≤ 9 from ⟨h1, h2⟩), w_id (a := 2 * n) (by omega) (by omega), w_id (a := 2 * n + 1) (by omega) (by omega), if_pos (by omega), if_pos (by omega)]
      have := spec_tri_l0 t ht n h2 t.length 0 k _ [] (Marks.made (by omega)) (by omega) (by omega)
      rw [List.drop_zero] at this
      exact this
    · rw [if_pos (by rw [decide_eq_false h2]; rfl), if_neg (fun h => h2 h.2)]
  · rw [if_neg h1]
    simp only [spec_IsTriangulation.j0]
    rw [if_pos trivial, if_neg (fun h => h1 h.1)]
theorem impl_isT (t : List (List Int)) (ht : t.length ≤ 1048576) (k : Nat) (hk : 6000000 < k) : impl_IsTriangulation.f k t = some (isT t) := impl_isT' t (by omega) k hk
theorem spec_isT (t : List (List Int)) (ht : t.length ≤ 1048576) (k : Nat) (hk : 6000000 < k) : spec_IsTriangulation.f k t = some (isT t) := spec_isT' t (by omega) k hk
end Go.Proofs.Ytjmgbaphlhimhaa.L


namespace Go.Proofs.Ytjmgbaphlhimhaa.L
open Go.RowKit Go.Proofs.Ytjmgbaphlhimhaa.P Go.Proofs.Ytjmgbaphlhimhaa.Help Go.Proofs.YtjmgbaphlhimhaaW.PrintWords
set_option linter.unusedVariables false
set_option linter.unusedSimpArgs false

theorem rowR_some {n : Int} : ∀ {r seen s : List Int}, rowR n seen r = some s → (∀ x ∈ r, x ≠ 0 ∧ -n ≤ x ∧ x ≤ n) ∧ r.Nodup ∧ (∀ x ∈ r, x ∉ seen) ∧ ∀ x, x ∈ s ↔ x ∈ r ∨ x ∈ seen
  | [], seen, s, h => by
    have e : seen = s := Option.some.inj h
    subst e
    simp
  | y :: ys, seen, s, h => by
    rw [rowR] at h
    by_cases c : y ≠ 0 ∧ (-n ≤ y ∧ y ≤ n) ∧ y ∉ seen
    · rw [if_pos c] at h
      obtain ⟨h1, h2, h3, h4⟩ := rowR_some h
      refine ⟨fun x hx => ?_, List.nodup_cons.2 ⟨fun hy => h3 y hy List.mem_cons_self, h2⟩, fun x hx hs => ?_, fun x => ?_⟩
      · rcases List.mem_cons.1 hx with rfl | hx
        · exact ⟨c.1, c.2.1⟩
        · exact h1 x hx
      · rcases List.mem_cons.1 hx with rfl | hx
        · exact c.2.2 hs
        · exact h3 x hx (List.mem_cons_of_mem _ hs)
      · rw [h4 x, List.mem_cons, List.mem_cons]
        constructor
        · rintro (h | h | h)
          · exact .inl (.inr h)
          · exact .inl (.inl h)
          · exact .inr h
        · rintro ((h | h) | h)
          · exact .inr (.inl h)
          · exact .inl h
          · exact .inr (.inr h)
    · rw [if_neg c] at h
      exact absurd h (by simp)
theorem triR_true {n : Int} : ∀ {rows : List (List Int)} {seen : List Int}, triR n seen rows = true → (∀ r ∈ rows, r.length = 3) ∧ (∀ x ∈ rows.flatten, x ≠ 0 ∧ -n ≤ x ∧ x ≤ n) ∧ rows.flatten.Nodup ∧ ∀ x ∈ rows.flatten, x ∉ seen
  | [], seen, _ => by simp
  | r :: rs, seen, h => by
    rw [triR] at h
    by_cases c : r.length = 3
    · rw [if_pos c] at h
      cases hr : rowR n seen r with
      | none => rw [hr] at h; exact absurd h (by simp)
      | some s =>
        rw [hr] at h
        obtain ⟨h1, h2, h3, h4⟩ := rowR_some hr
        obtain ⟨g1, g2, g3, g4⟩ := triR_true (show triR n s rs = true from h)
        refine ⟨fun x hx => ?_, fun x hx => ?_, ?_, fun x hx hs => ?_⟩
        · rcases List.mem_cons.1 hx with rfl | hx
          · exact c
          · exact g1 x hx
        · rw [List.flatten_cons, List.mem_append] at hx
          rcases hx with hx | hx
          · exact h1 x hx
          · exact g2 x hx
        · rw [List.flatten_cons]
          refine List.nodup_append.2 ⟨h2, g3, fun a ha b hb e => ?_⟩
          subst e
          exact g4 a hb ((h4 a).2 (.inl ha))
        · rw [List.flatten_cons, List.mem_append] at hx
          rcases hx with hx | hx
          · exact h3 x hx hs
          · exact g4 x hx ((h4 x).2 (.inr hs))
    · rw [if_neg c] at h
      exact absurd h (by simp)
/-- A triangulation with n edges. -/
structure TriOk (t : List (List Int)) (n : Int) : Prop where
  n3 : 3 ≤ n
  n9 : n ≤ 9
  len : 3 * (t.length : Int) = 2 * n
  row : ∀ r ∈ t, r.length = 3
  inr : ∀ x ∈ t.flatten, x ≠ 0 ∧ -n ≤ x ∧ x ≤ n
  nodup : t.flatten.Nodup
theorem edges_eq {t : List (List Int)} (ht : t.length ≤ 1048600) : edges t = 3 * (t.length : Int) / 2 := by
  unfold edges
  rw [w_id (a := 3 * (t.length : Int)) (by omega) (by omega), Int.tdiv_eq_ediv_of_nonneg (by omega), w_id (by omega) (by omega)]
theorem isT_ok' {t : List (List Int)} (ht : t.length ≤ 1048600) (h : isT t = true) : TriOk t (edges t) := by
  unfold isT at h
  by_cases c : (t.length : Int) % 2 = 0 ∧ 3 ≤ edges t ∧ edges t ≤ 9
  · rw [if_pos c] at h
    obtain ⟨h1, h2, h3, _⟩ := triR_true h
    have e := edges_eq ht
    exact ⟨c.2.1, c.2.2, by omega, h1, h2, h3⟩
  · rw [if_neg c] at h
    exact absurd h (by simp)
theorem isT_ok {t : List (List Int)} (ht : t.length ≤ 1048576) (h : isT t = true) : TriOk t (edges t) := isT_ok' (by omega) h
theorem TriOk.short {t : List (List Int)} {n : Int} (h : TriOk t n) : t.length ≤ 6 ∧ 2 ≤ t.length := by
  have := h.n3
  have := h.n9
  have := h.len
  omega
theorem TriOk.at {t : List (List Int)} {n : Int} (h : TriOk t n) {i j : Nat} (hi : i < t.length) (hj : j < t[i].length) : t[i][j] ≠ 0 ∧ -n ≤ t[i][j] ∧ t[i][j] ≤ n :=
  h.inr _ (List.mem_flatten.2 ⟨t[i], List.getElem_mem hi, List.getElem_mem hj⟩)
theorem TriOk.three {t : List (List Int)} {n : Int} (h : TriOk t n) {i : Nat} (hi : i < t.length) : t[i].length = 3 := h.row _ (List.getElem_mem hi)
theorem TriOk.i64 {t : List (List Int)} {n : Int} (h : TriOk t n) {r : List Int} (hr : r ∈ t) : ∃ a b c, r = [a, b, c] ∧ (a ≠ 0 ∧ -n ≤ a ∧ a ≤ n) ∧ (b ≠ 0 ∧ -n ≤ b ∧ b ≤ n) ∧ (c ≠ 0 ∧ -n ≤ c ∧ c ≤ n) := by
  have hl := h.row r hr
  match r, hl with
  | [a, b, c], _ =>
    exact ⟨a, b, c, rfl, h.inr _ (List.mem_flatten.2 ⟨_, hr, by simp⟩), h.inr _ (List.mem_flatten.2 ⟨_, hr, by simp⟩), h.inr _ (List.mem_flatten.2 ⟨_, hr, by simp⟩)⟩
end Go.Proofs.Ytjmgbaphlhimhaa.L

namespace Go.Proofs.Ytjmgbaphlhimhaa.L
open Go.RowKit Go.Proofs.Ytjmgbaphlhimhaa.P Go.Proofs.Ytjmgbaphlhimhaa.Help Go.Proofs.YtjmgbaphlhimhaaW.PrintWords
set_option linter.unusedVariables false
set_option linter.unusedSimpArgs false

/-- The first place of a number. -/
def idx (x : Int) : List Int → Int → Int
  | [], _ => -1
  | y :: ys, j => if y = x then j else idx x ys (j + 1)
def sideR (x : Int) : List (List Int) → Int → Int × Int
  | [], _ => (-1, -1)
  | r :: rs, i => if 0 ≤ idx x r 0 then (i, idx x r 0) else sideR x rs (i + 1)
theorem idx_bd (x : Int) : ∀ (ys : List Int) (j : Int), 0 ≤ j → idx x ys j = -1 ∨ (j ≤ idx x ys j ∧ idx x ys j < j + ys.length)
  | [], j, _ => .inl rfl
  | y :: ys, j, hj => by
    rw [idx, List.length_cons]
    split
    · exact .inr (by omega)
    · rcases idx_bd x ys (j + 1) (by omega) with h | h
      · exact .inl h
      · exact .inr (by omega)
theorem idx_hit (x : Int) : ∀ (ys : List Int) (j : Int), 0 ≤ j → x ∈ ys → j ≤ idx x ys j ∧ idx x ys j < j + ys.length
  | [], j, _, h => absurd h (by simp)
  | y :: ys, j, hj, h => by
    rw [idx, List.length_cons]
    by_cases e : y = x
    · rw [if_pos e]; omega
    · rw [if_neg e]
      have := idx_hit x ys (j + 1) (by omega) (by
        rcases List.mem_cons.1 h with h | h
        · exact absurd h.symm e
        · exact h)
      omega
theorem idx_at (x : Int) : ∀ (ys : List Int) (j : Int), 0 ≤ j → 0 ≤ idx x ys j → ys[(idx x ys j - j).toNat]? = some x
  | [], j, _, h => absurd h (by simp [idx])
  | y :: ys, j, hj, h => by
    rw [idx] at h ⊢
    by_cases e : y = x
    · rw [if_pos e]
      simp [e]
    · rw [if_neg e] at h ⊢
      have ih := idx_at x ys (j + 1) (by omega) h
      rcases idx_bd x ys (j + 1) (by omega) with h2 | h2
      · omega
      · rw [show (idx x ys (j + 1) - j).toNat = (idx x ys (j + 1) - (j + 1)).toNat + 1 by omega, List.getElem?_cons_succ]
        exact ih
theorem indexOf_l0 (x : Int) (xs : List Int) (hx : xs.length ≤ 1000000000000) : ∀ (d k j : Nat), j + d = xs.length → d < k → impl_indexOf.l0 k x xs (xs.length : Int) (j : Int) = some (idx x (xs.drop j) (j : Int)) := by
  intro d
  induction d with
  | zero =>
    intro k j hj hk
    obtain ⟨k, rfl⟩ : ∃ m, k = m + 1 := ⟨k - 1, by omega⟩
    simp only [impl_indexOf.l0]
    rw [if_neg (by omega), List.drop_of_length_le (by omega)]
    rfl
  | succ d ih =>
    intro k j hj hk
    obtain ⟨k, rfl⟩ : ∃ m, k = m + 1 := ⟨k - 1, by omega⟩
    have hlt : j < xs.length := by omega
    simp only [impl_indexOf.l0]
    rw [if_pos (by omega), if_pos (by omega), if_pos (by omega), rd_nat xs j hlt, List.drop_eq_getElem_cons hlt, idx]
    by_cases e : xs[j] = x
    · rw [if_pos e, if_pos e]
    · rw [if_neg e, if_neg e, w_id (by omega) (by omega), show ((j : Int) + 1) = ((j + 1 : Nat) : Int) by omega, ih k (j + 1) (by omega) (by omega)]
theorem indexOf_f (x : Int) (xs : List Int) (hx : xs.length ≤ 1000000000000) (k : Nat) (hk : xs.length < k) : impl_indexOf.f k xs x = some (idx x xs 0) := by
  unfold impl_indexOf.f
  have := indexOf_l0 x xs hx xs.length k 0 (by omega) hk
  rw [List.drop_zero] at this
  exact this
theorem sideAt_l0 (x : Int) (t : List (List Int)) (ht : t.length ≤ 1048576) (hr : ∀ r ∈ t, r.length ≤ 1048576) : ∀ (d k i : Nat), i + d = t.length → d + 1048577 < k → impl_sideAt.l0 k x t (t.length : Int) (i : Int) = some (sideR x (t.drop i) (i : Int)) := by
  intro d
  induction d with
  | zero =>
    intro k i hi hk
    obtain ⟨k, rfl⟩ : ∃ m, k = m + 1 := ⟨k - 1, by omega⟩
    simp only [impl_sideAt.l0]
    rw [if_neg (by omega), List.drop_of_length_le (by omega)]
    rfl
  | succ d ih =>
    intro k i hi hk
    obtain ⟨k, rfl⟩ : ∃ m, k = m + 1 := ⟨k - 1, by omega⟩
    have hlt : i < t.length := by omega
    have hl := hr _ (List.getElem_mem hlt)
    simp only [impl_sideAt.l0]
    rw [if_pos (by omega), if_pos (by omega), if_pos (by omega), rdL_nat t i hlt, indexOf_f x _ (by omega) k (by omega), Option.bind_some, List.drop_eq_getElem_cons hlt, sideR]
    by_cases e : 0 ≤ idx x t[i] 0
    · rw [if_pos e, if_pos e]
    · rw [if_neg e, if_neg e, w_id (by omega) (by omega), show ((i : Int) + 1) = ((i + 1 : Nat) : Int) by omega, ih k (i + 1) (by omega) (by omega)]
theorem sideAt_f (x : Int) (t : List (List Int)) (ht : t.length ≤ 1048576) (hr : ∀ r ∈ t, r.length ≤ 1048576) (k : Nat) (hk : 3000000 < k) : impl_sideAt.f k t x = some (sideR x t 0) := by
  unfold impl_sideAt.f
  have := sideAt_l0 x t ht hr t.length k 0 (by omega) (by omega)
  rw [List.drop_zero] at this
  exact this
end Go.Proofs.Ytjmgbaphlhimhaa.L

namespace Go.Proofs.Ytjmgbaphlhimhaa.L
open Go.RowKit Go.Proofs.Ytjmgbaphlhimhaa.P Go.Proofs.Ytjmgbaphlhimhaa.Help Go.Proofs.YtjmgbaphlhimhaaW.PrintWords
set_option linter.unusedVariables false
set_option linter.unusedSimpArgs false

theorem getD_at {α : Type} {l : List α} (d : α) {i : Nat} (h : i < l.length) : l.getD i d = l[i] := by
  rw [List.getD_eq_getElem?_getD, List.getElem?_eq_getElem h, Option.getD_some]
/-- The letter of a side, the sides counted on from the last to the first. -/
def sideOf (t : List (List Int)) (i : Nat) (j : Nat) : Int := (t.getD i []).getD (j % 3) 0
theorem sideOf_in {t : List (List Int)} {n : Int} (ok : TriOk t n) {i : Nat} (hi : i < t.length) (j : Nat) : sideOf t i j ≠ 0 ∧ -n ≤ sideOf t i j ∧ sideOf t i j ≤ n := by
  have h3 := ok.three hi
  have hj : j % 3 < t[i].length := by omega
  have := ok.at hi hj
  unfold sideOf
  rw [getD_at _ hi, getD_at _ hj]
  exact this
theorem sideOf_eq {t : List (List Int)} {i : Nat} (hi : i < t.length) {a b c : Int} (e : t[i] = [a, b, c]) : sideOf t i 0 = a ∧ sideOf t i 1 = b ∧ sideOf t i 2 = c ∧ sideOf t i 3 = a ∧ sideOf t i 4 = b := by
  unfold sideOf
  rw [getD_at _ hi, e]
  exact ⟨rfl, rfl, rfl, rfl, rfl⟩
theorem flat3 : ∀ {t : List (List Int)}, (∀ r ∈ t, r.length = 3) → t.flatten.length = 3 * t.length
  | [], _ => rfl
  | r :: rs, h => by
    rw [List.flatten_cons, List.length_append, h r List.mem_cons_self, flat3 (fun x hx => h x (List.mem_cons_of_mem _ hx)), List.length_cons]
    omega
/-- All letters and inverses. -/
def letters (n : Nat) : List Int := (List.range n).map (fun (k : Nat) => (k : Int) + 1) ++ (List.range n).map (fun (k : Nat) => -(k : Int) - 1)
theorem mem_letters {n : Nat} {x : Int} (h0 : x ≠ 0) (h1 : -(n : Int) ≤ x) (h2 : x ≤ n) : x ∈ letters n := by
  unfold letters
  rw [List.mem_append, List.mem_map, List.mem_map]
  by_cases h : 0 < x
  · exact .inl ⟨(x - 1).toNat, List.mem_range.2 (by omega), by omega⟩
  · exact .inr ⟨(-x - 1).toNat, List.mem_range.2 (by omega), by omega⟩
theorem TriOk.all {t : List (List Int)} {n : Int} (ok : TriOk t n) {x : Int} (h0 : x ≠ 0) (h1 : -n ≤ x) (h2 : x ≤ n) : x ∈ t.flatten := by
  apply Classical.byContradiction
  intro hc
  have n3 := ok.n3
  obtain ⟨m, rfl⟩ : ∃ m : Nat, n = m := ⟨n.toNat, by omega⟩
  have hx := mem_letters h0 h1 h2
  have hs : ∀ y, y ∈ t.flatten → y ∈ (letters m).erase x := by
    intro y hy
    have hb := ok.inr y hy
    exact (List.mem_erase_of_ne (fun e => hc (by rw [← e]; exact hy))).2 (mem_letters hb.1 hb.2.1 hb.2.2)
  have hl := List.Nodup.length_le_of_subset ok.nodup hs
  rw [List.length_erase_of_mem hx, flat3 ok.row] at hl
  have : (letters m).length = 2 * m := by unfold letters; simp; omega
  have := ok.len
  omega
theorem sideR_at (x : Int) : ∀ (rs : List (List Int)) (b : Int), 0 ≤ b → x ∈ rs.flatten → ∃ i j : Nat, i < rs.length ∧ ∃ h : i < rs.length, j < rs[i].length ∧ rs[i][j]? = some x ∧ sideR x rs b = (b + i, (j : Int))
  | [], b, _, h => absurd h (by simp)
  | r :: rs, b, hb, h => by
    rw [sideR]
    by_cases hr : 0 ≤ idx x r 0
    · have h1 := idx_at x r 0 (by omega) hr
      have h2 := idx_bd x r 0 (by omega)
      rw [if_pos hr]
      refine ⟨0, (idx x r 0).toNat, by simp, by simp, ?_, ?_, ?_⟩
      · show (idx x r 0).toNat < r.length
        omega
      · show r[(idx x r 0).toNat]? = some x
        rw [Int.sub_zero] at h1
        exact h1
      · have e : ((idx x r 0).toNat : Int) = idx x r 0 := by omega
        rw [e]
        simp
    · rw [if_neg hr]
      rw [List.flatten_cons, List.mem_append] at h
      rcases h with h | h
      · have := idx_hit x r 0 (by omega) h
        exact absurd this.1 hr
      · obtain ⟨i, j, hi, hi', hj, he, hs⟩ := sideR_at x rs (b + 1) (by omega) h
        refine ⟨i + 1, j, by simpa using hi, by simpa using hi, ?_, ?_, ?_⟩
        · simpa using hj
        · simpa using he
        · rw [hs]
          refine Prod.ext ?_ rfl
          show b + 1 + (i : Int) = b + ((i + 1 : Nat) : Int)
          omega
/-- Where a letter stands. -/
theorem TriOk.side {t : List (List Int)} {n : Int} (ok : TriOk t n) {x : Int} (h0 : x ≠ 0) (h1 : -n ≤ x) (h2 : x ≤ n) : ∃ i j : Nat, i < t.length ∧ j < 3 ∧ sideR x t 0 = ((i : Int), (j : Int)) ∧ sideOf t i j = x := by
  obtain ⟨i, j, hi, _, hj, he, hs⟩ := sideR_at x t 0 (by omega) (ok.all h0 h1 h2)
  have h3 := ok.three hi
  refine ⟨i, j, hi, by omega, by rw [hs, Int.zero_add], ?_⟩
  unfold sideOf
  rw [getD_at _ hi, List.getD_eq_getElem?_getD, Nat.mod_eq_of_lt (by omega), he]
  rfl
theorem rd_side {t : List (List Int)} {n : Int} (ok : TriOk t n) {i : Nat} (hi : i < t.length) (j : Nat) : rd (rd_L1 t (i : Int)) (Int.tmod (j : Int) 3) = sideOf t i j := by
  have h3 := ok.three hi
  rw [rdL_nat t i hi, Int.tmod_eq_emod_of_nonneg (by omega), show ((j : Int) % 3) = ((j % 3 : Nat) : Int) by omega, rd_nat _ _ (by omega)]
  unfold sideOf
  rw [getD_at _ hi, getD_at _ (by omega)]
end Go.Proofs.Ytjmgbaphlhimhaa.L

namespace Go.Proofs.Ytjmgbaphlhimhaa.L
open Go.RowKit Go.Proofs.Ytjmgbaphlhimhaa.P Go.Proofs.Ytjmgbaphlhimhaa.Help Go.Proofs.YtjmgbaphlhimhaaW.PrintWords
set_option linter.unusedVariables false
set_option linter.unusedSimpArgs false

theorem l3Abs_eq {a : Int} (h0 : -9223372036854775807 ≤ a) (h1 : a ≤ 9223372036854775807) : spec_l3Abs.f a = some (a.natAbs : Int) := by
  unfold spec_l3Abs.f spec_l1Max.f
  rw [w_id (by omega) (by omega)]
  by_cases h : a > -a
  · rw [if_pos h]; simp only [Option.bind_some]; congr 1; omega
  · rw [if_neg h]; simp only [Option.bind_some]; congr 1; omega
theorem size_eq {a : Int} (h0 : -9223372036854775807 ≤ a) (h1 : a ≤ 9223372036854775807) : impl_size.f a = some (a.natAbs : Int) := by
  unfold impl_size.f
  rw [w_id (by omega) (by omega)]
  congr 1
  unfold mx
  split <;> omega
end Go.Proofs.Ytjmgbaphlhimhaa.L

namespace Go.Proofs.Ytjmgbaphlhimhaa.L
open Go.RowKit Go.Proofs.Ytjmgbaphlhimhaa.P Go.Proofs.Ytjmgbaphlhimhaa.Help Go.Proofs.YtjmgbaphlhimhaaW.PrintWords
set_option linter.unusedVariables false
set_option linter.unusedSimpArgs false

theorem bit_eq (b : Bool) : spec_l1Bit.f b = some (if b = true then 1 else 0) := by
  unfold spec_l1Bit.f
  split <;> rfl
theorem rd_at {t : List (List Int)} {n : Int} (ok : TriOk t n) {i : Nat} (hi : i < t.length) {j : Nat} (hj : j < 3) : rd (rd_L1 t (i : Int)) (j : Int) = sideOf t i j := by
  have := rd_side ok hi j
  rwa [Int.tmod_eq_emod_of_nonneg (by omega), show (j : Int) % 3 = (j : Int) by omega] at this
theorem sideOf_mod (t : List (List Int)) (i j : Nat) : sideOf t i (j % 3) = sideOf t i j := by
  unfold sideOf
  rw [Nat.mod_mod]
theorem flat_at : ∀ {t : List (List Int)}, (∀ r ∈ t, r.length = 3) → ∀ {i j : Nat}, i < t.length → j < 3 → t.flatten[3 * i + j]? = some (sideOf t i j)
  | [], _, i, j, hi, _ => absurd hi (by simp)
  | r :: rs, h, 0, j, hi, hj => by
    have hl := h r List.mem_cons_self
    rw [List.flatten_cons, List.getElem?_append_left (by omega), List.getElem?_eq_getElem (by omega)]
    unfold sideOf
    rw [List.getD_cons_zero, List.getD_eq_getElem?_getD, List.getElem?_eq_getElem (show j % 3 < r.length by omega), Option.getD_some]
    congr 1
    congr 1
    omega
  | r :: rs, h, i + 1, j, hi, hj => by
    have hl := h r List.mem_cons_self
    have ih := flat_at (t := rs) (fun x hx => h x (List.mem_cons_of_mem _ hx)) (i := i) (j := j) (by simpa using hi) hj
    rw [List.flatten_cons, List.getElem?_append_right (by omega), show 3 * (i + 1) + j - r.length = 3 * i + j by omega, ih]
    rfl
/-- A letter stands at one place only. -/
theorem side_inj {t : List (List Int)} {n : Int} (ok : TriOk t n) {i j k l : Nat} (hi : i < t.length) (hj : j < 3) (hk : k < t.length) (hl : l < 3) (e : sideOf t i j = sideOf t k l) : i = k ∧ j = l := by
  have a := flat_at ok.row hi hj
  have b := flat_at ok.row hk hl
  rw [e] at a
  obtain ⟨a1, a2⟩ := List.getElem?_eq_some_iff.1 a
  obtain ⟨b1, b2⟩ := List.getElem?_eq_some_iff.1 b
  have hp := List.pairwise_iff_getElem.1 ok.nodup
  rcases Nat.lt_trichotomy (3 * i + j) (3 * k + l) with h | h | h
  · exact absurd (a2.trans b2.symm) (hp _ _ a1 b1 h)
  · omega
  · exact absurd (b2.trans a2.symm) (hp _ _ b1 a1 h)
theorem side_at {t : List (List Int)} {n : Int} (ok : TriOk t n) {i j : Nat} (hi : i < t.length) (hj : j < 3) : sideR (sideOf t i j) t 0 = ((i : Int), (j : Int)) := by
  have hs := sideOf_in ok hi j
  obtain ⟨o, a, ho, ha, h1, h2⟩ := ok.side hs.1 hs.2.1 hs.2.2
  obtain ⟨rfl, rfl⟩ := side_inj ok ho ha hi hj h2
  exact h1
/-- Corners, and the beginnings and ends of edges. -/
def cor (i j : Nat) : Int := 3 * (i : Int) + ((j % 3 : Nat) : Int)
def Bg (s : Int) : Int := 2 * (s.natAbs : Int) + (if s < 0 then 1 else 0)
def En (s : Int) : Int := 2 * (s.natAbs : Int) + (if s > 0 then 1 else 0)
theorem En_neg {s : Int} (h : s ≠ 0) : En s = Bg (-s) := by
  unfold En Bg
  rw [Int.natAbs_neg]
  split <;> split <;> omega
/-- The place of the inverse of a side. -/
def opp (t : List (List Int)) (i j : Nat) : Nat × Nat := ((sideR (-(sideOf t i j)) t 0).1.toNat, (sideR (-(sideOf t i j)) t 0).2.toNat)
theorem opp_at {t : List (List Int)} {n : Int} (ok : TriOk t n) {i : Nat} (hi : i < t.length) (j : Nat) : (opp t i j).1 < t.length ∧ (opp t i j).2 < 3 ∧ sideOf t (opp t i j).1 (opp t i j).2 = -(sideOf t i j) ∧ sideR (-(sideOf t i j)) t 0 = (((opp t i j).1 : Int), ((opp t i j).2 : Int)) := by
  have hs := sideOf_in ok hi j
  obtain ⟨o, a, ho, ha, h1, h2⟩ := ok.side (x := -(sideOf t i j)) (by omega) (by omega) (by omega)
  unfold opp
  rw [h1]
  exact ⟨ho, ha, h2, rfl⟩
def vp (t : List (List Int)) (i j : Nat) : List (Int × Int) := [(cor i j, cor (opp t i j).1 ((opp t i j).2 + 1)), (cor i (j + 1), cor (opp t i j).1 (opp t i j).2)]
def ep (t : List (List Int)) (i j : Nat) : List (Int × Int) := [(En (sideOf t i j), Bg (sideOf t i (j + 1)))]
theorem cor_bd {t : List (List Int)} {i : Nat} (hi : i < t.length) (j : Nat) : 0 ≤ cor i j ∧ cor i j < 3 * (t.length : Int) := by
  unfold cor
  omega
theorem Bg_bd {t : List (List Int)} {n : Int} (ok : TriOk t n) {i : Nat} (hi : i < t.length) (j : Nat) : 0 ≤ Bg (sideOf t i j) ∧ Bg (sideOf t i j) < 3 * (t.length : Int) + 2 := by
  have hs := sideOf_in ok hi j
  have := ok.len
  unfold Bg
  split <;> omega
theorem En_bd {t : List (List Int)} {n : Int} (ok : TriOk t n) {i : Nat} (hi : i < t.length) (j : Nat) : 0 ≤ En (sideOf t i j) ∧ En (sideOf t i j) < 3 * (t.length : Int) + 2 := by
  have hs := sideOf_in ok hi j
  have := ok.len
  unfold En
  split <;> omega
theorem tmod3 (m : Nat) : Int.tmod (m : Int) 3 = ((m % 3 : Nat) : Int) := by
  rw [Int.tmod_eq_emod_of_nonneg (by omega)]
  omega
theorem w_n {a : Int} {m : Nat} (h : a = (m : Int)) (hm : m ≤ 1000000) : wrap64 a = (m : Int) := by
  rw [h]
  exact w_id (by omega) (by omega)
theorem vert_l1 {t : List (List Int)} {n : Int} (ok : TriOk t n) (ht : t.length ≤ 1048576) (hr : ∀ r ∈ t, r.length ≤ 1048576) {i : Nat} (hi : i < t.length) : ∀ (d j k : Nat) (xs : List Int) (ps : List (Int × Int)), j + d = 3 → 3000100 + d < k → UF.Stands xs (3 * (t.length : Int)) ps →
    ∃ ys, impl_vertices.l1 k t xs (i : Int) (j : Int) = impl_vertices.l0 (k - d - 1) t ys ((i + 1 : Nat) : Int) ∧ UF.Stands ys (3 * (t.length : Int)) (ps ++ rowG (vp t) i d j) := by
  have h3 := ok.three hi
  have hs := ok.short
  have hl : ((rd_L1 t (i : Int)).length : Int) = 3 := by rw [rdL_nat t i hi, h3]; rfl
  intro d
  induction d with
  | zero =>
    intro j k xs ps hj hk h
    obtain ⟨k, rfl⟩ : ∃ m, k = m + 1 := ⟨k - 1, by omega⟩
    refine ⟨xs, ?_, by simpa [rowG] using h⟩
    simp only [impl_vertices.l1]
    rw [hl, if_neg (by omega), w_n (m := i + 1) (by omega) (by omega)]
    rfl
  | succ d ih =>
    intro j k xs ps hj hk h
    obtain ⟨k, rfl⟩ : ∃ m, k = m + 1 := ⟨k - 1, by omega⟩
    have hn := h.len
    have hs1 := sideOf_in ok hi j
    have n9 := ok.n9
    obtain ⟨o1, o2, o3, o4⟩ := opp_at ok hi j
    obtain ⟨ys, e1, S1⟩ := join_f h (a := cor i j) (b := cor (opp t i j).1 ((opp t i j).2 + 1)) (cor_bd hi j) (cor_bd o1 _) (m := k) (by omega)
    have hn1 := S1.len
    obtain ⟨zs, e2, S2⟩ := join_f S1 (a := cor i (j + 1)) (b := cor (opp t i j).1 (opp t i j).2) (cor_bd hi _) (cor_bd o1 _) (m := k) (by omega)
    obtain ⟨us, e3, S3⟩ := ih (j + 1) k zs _ (by omega) (by omega) S2
    refine ⟨us, ?_, ?_⟩
    · simp only [impl_vertices.l1]
      rw [hl, if_pos (by omega), if_pos (by omega), rd_at ok hi (by omega), w_id (a := -(sideOf t i j)) (by omega) (by omega), sideAt_f _ t ht hr k (by omega), Option.bind_some, o4]
      dsimp only
      rw [show wrap64 (3 * (i : Int)) = ((3 * i : Nat) : Int) from w_n (by omega) (by omega), show wrap64 (3 * ((opp t i j).1 : Int)) = ((3 * (opp t i j).1 : Nat) : Int) from w_n (by omega) (by omega),
        show wrap64 (((opp t i j).2 : Int) + 1) = (((opp t i j).2 + 1 : Nat) : Int) from w_n (by omega) (by omega), show wrap64 ((j : Int) + 1) = ((j + 1 : Nat) : Int) from w_n (by omega) (by omega), tmod3, tmod3,
        show wrap64 (((3 * i : Nat) : Int) + (j : Int)) = cor i j from by rw [w_n (m := 3 * i + j) (by omega) (by omega)]; unfold cor; omega,
        show wrap64 (((3 * (opp t i j).1 : Nat) : Int) + (((((opp t i j).2 + 1) % 3 : Nat)) : Int)) = cor (opp t i j).1 ((opp t i j).2 + 1) from by rw [w_n (m := 3 * (opp t i j).1 + ((opp t i j).2 + 1) % 3) (by omega) (by omega)]; unfold cor; omega,
        e1, Option.bind_some,
        show wrap64 (((3 * i : Nat) : Int) + ((((j + 1) % 3 : Nat)) : Int)) = cor i (j + 1) from by rw [w_n (m := 3 * i + (j + 1) % 3) (by omega) (by omega)]; unfold cor; omega,
        show wrap64 (((3 * (opp t i j).1 : Nat) : Int) + ((opp t i j).2 : Int)) = cor (opp t i j).1 (opp t i j).2 from by rw [w_n (m := 3 * (opp t i j).1 + (opp t i j).2) (by omega) (by omega)]; unfold cor; omega,
        e2, Option.bind_some, e3, show k + 1 - (d + 1) - 1 = k - d - 1 by omega]
    · rw [rowG, show vp t i j = [(cor i j, cor (opp t i j).1 ((opp t i j).2 + 1)), (cor i (j + 1), cor (opp t i j).1 (opp t i j).2)] from rfl]
      simpa [List.append_assoc] using S3
theorem vert_l0 {t : List (List Int)} {n : Int} (ok : TriOk t n) (ht : t.length ≤ 1048576) (hr : ∀ r ∈ t, r.length ≤ 1048576) : ∀ (d i k : Nat) (xs : List Int) (ps : List (Int × Int)), i + d = t.length → 3000200 + 5 * d < k → UF.Stands xs (3 * (t.length : Int)) ps →
    ∃ ys, impl_vertices.l0 k t xs (i : Int) = some ys ∧ UF.Stands ys (3 * (t.length : Int)) (ps ++ allG (vp t) d i) := by
  intro d
  induction d with
  | zero =>
    intro i k xs ps hi hk h
    obtain ⟨k, rfl⟩ : ∃ m, k = m + 1 := ⟨k - 1, by omega⟩
    refine ⟨xs, ?_, by simpa [allG] using h⟩
    simp only [impl_vertices.l0]
    rw [if_neg (by omega)]
  | succ d ih =>
    intro i k xs ps hi hk h
    obtain ⟨k, rfl⟩ : ∃ m, k = m + 1 := ⟨k - 1, by omega⟩
    obtain ⟨ys, e1, S1⟩ := vert_l1 ok ht hr (i := i) (by omega) 3 0 k xs ps (by omega) (by omega) h
    obtain ⟨zs, e2, S2⟩ := ih (i + 1) (k - 3 - 1) ys _ (by omega) (by omega) S1
    refine ⟨zs, ?_, by rw [allG, ← List.append_assoc]; exact S2⟩
    simp only [impl_vertices.l0]
    rw [if_pos (by omega), if_pos (by omega)]
    have e1' : impl_vertices.l1 k t xs (i : Int) 0 = impl_vertices.l0 (k - 3 - 1) t ys ((i + 1 : Nat) : Int) := e1
    rw [e1', e2]
theorem vert_f {t : List (List Int)} {n : Int} (ok : TriOk t n) (ht : t.length ≤ 1048576) (hr : ∀ r ∈ t, r.length ≤ 1048576) (k : Nat) (hk : 3000300 < k) : ∃ ys, impl_vertices.f k t = some ys ∧ UF.Stands ys (3 * (t.length : Int)) (allG (vp t) t.length 0) := by
  have hs := ok.short
  have h0 := UF.alone_stands (3 * t.length)
  have e0 : (((3 * t.length : Nat)) : Int) = 3 * (t.length : Int) := by omega
  rw [e0] at h0
  obtain ⟨ys, e, S⟩ := vert_l0 ok ht hr t.length 0 k _ [] (by omega) (by omega) h0
  refine ⟨ys, ?_, by simpa using S⟩
  unfold impl_vertices.f
  rw [show wrap64 (3 * (t.length : Int)) = ((3 * t.length : Nat) : Int) from w_n (by omega) (by omega), newJoiner_f _ (by omega) k (by omega), Option.bind_some]
  exact e
theorem ends_l2 {t : List (List Int)} {n : Int} (ok : TriOk t n) {i : Nat} (hi : i < t.length) : ∀ (d j k : Nat) (xs : List Int) (ps : List (Int × Int)), j + d = 3 → 100 + d < k → UF.Stands xs (3 * (t.length : Int) + 2) ps →
    ∃ ys, spec_l15Ends.l2 k t xs (i : Int) (j : Int) = spec_l15Ends.l1 (k - d - 1) t ys ((i + 1 : Nat) : Int) ∧ UF.Stands ys (3 * (t.length : Int) + 2) (ps ++ rowG (ep t) i d j) := by
  have h3 := ok.three hi
  have hs := ok.short
  have hl : ((rd_L1 t (i : Int)).length : Int) = 3 := by rw [rdL_nat t i hi, h3]; rfl
  intro d
  induction d with
  | zero =>
    intro j k xs ps hj hk h
    obtain ⟨k, rfl⟩ : ∃ m, k = m + 1 := ⟨k - 1, by omega⟩
    refine ⟨xs, ?_, by simpa [rowG] using h⟩
    simp only [spec_l15Ends.l2]
    rw [if_neg (by omega), w_n (m := i + 1) (by omega) (by omega)]
    rfl
  | succ d ih =>
    intro j k xs ps hj hk h
    obtain ⟨k, rfl⟩ : ∃ m, k = m + 1 := ⟨k - 1, by omega⟩
    have hn := h.len
    have a1 := sideOf_in ok hi j
    have a2 := sideOf_in ok hi (j + 1)
    have n9 := ok.n9
    have b1 := En_bd ok hi j
    have b2 := Bg_bd ok hi (j + 1)
    have r1 := h.ok.rt b1.1 (by omega)
    have r2 := h.ok.rt b2.1 (by omega)
    have c1 := h.ok.bd r1 b1.1 (by omega)
    have J := (h.join b1 b2 r1 r2).1
    obtain ⟨us, e3, S3⟩ := ih (j + 1) k _ _ (by omega) (by omega) J
    refine ⟨us, ?_, ?_⟩
    · have x1 : (j : Int) < 3 := by omega
      have x2 : (0 : Int) ≤ (i : Int) := by omega
      have x3 : (i : Int) < (t.length : Int) := by omega
      have x4 : (0 : Int) ≤ (j : Int) := by omega
      have x5 : j < 3 := by omega
      have x6 : k + 1 - (d + 1) - 1 = k - d - 1 := by omega
      have y1 := l3Abs_eq (a := sideOf t i j) (by omega) (by omega)
      have y2 := l3Abs_eq (a := sideOf t i (j + 1)) (by omega) (by omega)
      have z1 := find3_f h.ok b1.1 (m := k) (by omega) (by omega)
      have z2 := find3_f h.ok b2.1 (m := k) (by omega) (by omega)
      have q1 : 0 ≤ Int.tmod (((j + 1 : Nat)) : Int) 3 := by rw [tmod3]; omega
      have q2 : Int.tmod (((j + 1 : Nat)) : Int) 3 < 3 := by rw [tmod3]; omega
      have w1 : wrap64 ((j : Int) + 1) = ((j + 1 : Nat) : Int) := w_n (by omega) (by omega)
      have v1 : wrap64 (wrap64 (2 * ((sideOf t i j).natAbs : Int)) + (if decide (sideOf t i j > 0) = true then 1 else 0)) = En (sideOf t i j) := by
        rw [w_id (a := 2 * ((sideOf t i j).natAbs : Int)) (by omega) (by omega)]
        unfold En
        by_cases c : sideOf t i j > 0
        · rw [if_pos (decide_eq_true c), if_pos c, w_id (by omega) (by omega)]
        · rw [if_neg (by simpa using c), if_neg c, w_id (by omega) (by omega)]
      have v2 : wrap64 (wrap64 (2 * ((sideOf t i (j + 1)).natAbs : Int)) + (if decide (sideOf t i (j + 1) < 0) = true then 1 else 0)) = Bg (sideOf t i (j + 1)) := by
        rw [w_id (a := 2 * ((sideOf t i (j + 1)).natAbs : Int)) (by omega) (by omega)]
        unfold Bg
        by_cases c : sideOf t i (j + 1) < 0
        · rw [if_pos (decide_eq_true c), if_pos c, w_id (by omega) (by omega)]
        · rw [if_neg (by simpa using c), if_neg c, w_id (by omega) (by omega)]
      simp only [spec_l15Ends.l2]
      rw [w1, hl, if_pos x1, if_pos x2, if_pos x3, if_pos x4, if_pos x1, if_pos q1, if_pos q2]
      rw [rd_at ok hi x5, rd_side ok hi, y1, Option.bind_some, bit_eq, Option.bind_some, v1, z1, Option.bind_some, y2, Option.bind_some, bit_eq, Option.bind_some, v2, z2, Option.bind_some, if_pos c1.1, if_pos c1.2, e3, x6]
    · rw [rowG, show ep t i j = [(En (sideOf t i j), Bg (sideOf t i (j + 1)))] from rfl]
      simpa [List.append_assoc] using S3
theorem ends_l1 {t : List (List Int)} {n : Int} (ok : TriOk t n) : ∀ (d i k : Nat) (xs : List Int) (ps : List (Int × Int)), i + d = t.length → 200 + 5 * d < k → UF.Stands xs (3 * (t.length : Int) + 2) ps →
    ∃ ys, spec_l15Ends.l1 k t xs (i : Int) = some ys ∧ UF.Stands ys (3 * (t.length : Int) + 2) (ps ++ allG (ep t) d i) := by
  intro d
  induction d with
  | zero =>
    intro i k xs ps hi hk h
    obtain ⟨k, rfl⟩ : ∃ m, k = m + 1 := ⟨k - 1, by omega⟩
    refine ⟨xs, ?_, by simpa [allG] using h⟩
    simp only [spec_l15Ends.l1]
    rw [if_neg (by omega)]
  | succ d ih =>
    intro i k xs ps hi hk h
    obtain ⟨k, rfl⟩ : ∃ m, k = m + 1 := ⟨k - 1, by omega⟩
    obtain ⟨ys, e1, S1⟩ := ends_l2 ok (i := i) (by omega) 3 0 k xs ps (by omega) (by omega) h
    obtain ⟨zs, e2, S2⟩ := ih (i + 1) (k - 3 - 1) ys _ (by omega) (by omega) S1
    refine ⟨zs, ?_, by rw [allG, ← List.append_assoc]; exact S2⟩
    simp only [spec_l15Ends.l1]
    rw [if_pos (by omega)]
    have e1' : spec_l15Ends.l2 k t xs (i : Int) 0 = spec_l15Ends.l1 (k - 3 - 1) t ys ((i + 1 : Nat) : Int) := e1
    rw [e1', e2]
theorem ends_l0 (t : List (List Int)) (ht : t.length ≤ 1000) : ∀ (d k i : Nat), i + d = 3 * t.length + 2 → d < k → spec_l15Ends.l0 k t (UF.alone i) (i : Int) = spec_l15Ends.l1 (k - d - 1) t (UF.alone (3 * t.length + 2)) 0 := by
  intro d
  induction d with
  | zero =>
    intro k i hi hk
    obtain ⟨k, rfl⟩ : ∃ m, k = m + 1 := ⟨k - 1, by omega⟩
    simp only [spec_l15Ends.l0]
    rw [w_id (a := 3 * (t.length : Int)) (by omega) (by omega), w_id (a := 3 * (t.length : Int) + 1) (by omega) (by omega), if_neg (by omega), show i = 3 * t.length + 2 by omega]
    rfl
  | succ d ih =>
    intro k i hi hk
    obtain ⟨k, rfl⟩ : ∃ m, k = m + 1 := ⟨k - 1, by omega⟩
    simp only [spec_l15Ends.l0]
    rw [w_id (a := 3 * (t.length : Int)) (by omega) (by omega), w_id (a := 3 * (t.length : Int) + 1) (by omega) (by omega), if_pos (by omega), if_pos (by rw [alone_len]; omega), show wrap64 ((i : Int) + 1) = ((i + 1 : Nat) : Int) from w_n (by omega) (by omega), ← alone_succ, ih k (i + 1) (by omega) (by omega), show k + 1 - (d + 1) - 1 = k - d - 1 by omega]
theorem ends_f {t : List (List Int)} {n : Int} (ok : TriOk t n) (k : Nat) (hk : 1000 < k) : ∃ ys, spec_l15Ends.f k t = some ys ∧ UF.Stands ys (3 * (t.length : Int) + 2) (allG (ep t) t.length 0) := by
  have hs := ok.short
  have h0 := UF.alone_stands (3 * t.length + 2)
  have e0 : (((3 * t.length + 2 : Nat)) : Int) = 3 * (t.length : Int) + 2 := by omega
  rw [e0] at h0
  obtain ⟨ys, e, S⟩ := ends_l1 ok t.length 0 (k - (3 * t.length + 2) - 1) _ [] (by omega) (by omega) h0
  refine ⟨ys, ?_, by simpa using S⟩
  unfold spec_l15Ends.f
  have := ends_l0 t (by omega) (3 * t.length + 2) k 0 (by omega) (by omega)
  exact this.trans e
/-- The corner with a beginning. -/
def gm (t : List (List Int)) (e : Int) : Int := if e < 2 then 0 else (let x : Int := if e % 2 = 0 then e / 2 else -(e / 2); 3 * (sideR x t 0).1 + (sideR x t 0).2)
def fm (t : List (List Int)) (c : Int) : Int := Bg (sideOf t (c / 3).toNat (c % 3).toNat)
theorem fm_cor (t : List (List Int)) (i j : Nat) : fm t (cor i j) = Bg (sideOf t i j) := by
  unfold fm cor
  rw [show ((3 * (i : Int) + ((j % 3 : Nat) : Int)) / 3).toNat = i by omega, show ((3 * (i : Int) + ((j % 3 : Nat) : Int)) % 3).toNat = j % 3 by omega, sideOf_mod]
theorem gm_Bg {t : List (List Int)} {n : Int} (ok : TriOk t n) {i j : Nat} (hi : i < t.length) (hj : j < 3) : gm t (Bg (sideOf t i j)) = cor i j := by
  have hs := sideOf_in ok hi j
  have hx : (if Bg (sideOf t i j) % 2 = 0 then Bg (sideOf t i j) / 2 else -(Bg (sideOf t i j) / 2)) = sideOf t i j := by
    unfold Bg
    by_cases c : sideOf t i j < 0
    · rw [if_pos c, if_neg (by omega)]; omega
    · rw [if_neg c, if_pos (by omega)]; omega
  unfold gm
  rw [if_neg (by unfold Bg; split <;> omega), hx]
  dsimp only
  rw [side_at ok hi hj]
  unfold cor
  omega
theorem gm_Bg' {t : List (List Int)} {n : Int} (ok : TriOk t n) {i : Nat} (hi : i < t.length) (j : Nat) : gm t (Bg (sideOf t i j)) = cor i j := by
  have := gm_Bg ok hi (j := j % 3) (by omega)
  rw [sideOf_mod] at this
  rw [this]
  unfold cor
  rw [Nat.mod_mod]
theorem gm_bd {t : List (List Int)} {n : Int} (ok : TriOk t n) (e : Int) (h0 : 0 ≤ e) (h1 : e < 3 * (t.length : Int) + 2) : 0 ≤ gm t e ∧ gm t e < 3 * (t.length : Int) := by
  have hs := ok.short
  have hl := ok.len
  unfold gm
  by_cases c : e < 2
  · rw [if_pos c]; omega
  · rw [if_neg c]
    dsimp only
    obtain ⟨o, a, ho, ha, h2, _⟩ := ok.side (x := if e % 2 = 0 then e / 2 else -(e / 2)) (by split <;> omega) (by split <;> omega) (by split <;> omega)
    rw [h2]
    dsimp only
    omega
/-- The classes are the same ones. -/
theorem cls_fm {t : List (List Int)} {n : Int} (ok : TriOk t n) {c d : Int} (hc : 0 ≤ c ∧ c < 3 * (t.length : Int)) (hd : 0 ≤ d ∧ d < 3 * (t.length : Int)) :
    UF.Cls (3 * (t.length : Int)) (allG (vp t) t.length 0) c d ↔ UF.Cls (3 * (t.length : Int) + 2) (allG (ep t) t.length 0) (fm t c) (fm t d) := by
  have corOf : ∀ c : Int, 0 ≤ c → c < 3 * (t.length : Int) → ∃ i j : Nat, i < t.length ∧ j < 3 ∧ c = cor i j := by
    intro c h0 h1
    exact ⟨(c / 3).toNat, (c % 3).toNat, by omega, by omega, by unfold cor; omega⟩
  have fb : ∀ c : Int, 0 ≤ c → c < 3 * (t.length : Int) → 0 ≤ fm t c ∧ fm t c < 3 * (t.length : Int) + 2 := by
    intro c h0 h1
    obtain ⟨i, j, hi, hj, rfl⟩ := corOf c h0 h1
    rw [fm_cor]
    exact Bg_bd ok hi j
  have epm : ∀ i j : Nat, i < t.length → j < 3 → UF.Cls (3 * (t.length : Int) + 2) (allG (ep t) t.length 0) (En (sideOf t i j)) (Bg (sideOf t i (j + 1))) := by
    intro i j hi hj
    refine .pair ((mem_allG _ _).2 ⟨i, by omega, by omega, j, hj, by simp [ep]⟩) ?_ ?_ ?_ ?_
    · exact (En_bd ok hi j).1
    · exact (En_bd ok hi j).2
    · exact (Bg_bd ok hi (j + 1)).1
    · exact (Bg_bd ok hi (j + 1)).2
  have vpm : ∀ i j : Nat, i < t.length → j < 3 → ∀ p, p ∈ vp t i j → UF.Cls (3 * (t.length : Int)) (allG (vp t) t.length 0) p.1 p.2 := by
    intro i j hi hj p hp
    obtain ⟨o1, o2, o3, o4⟩ := opp_at ok hi j
    have hm : p ∈ allG (vp t) t.length 0 := (mem_allG _ _).2 ⟨i, by omega, by omega, j, hj, hp⟩
    have hp' : p = (cor i j, cor (opp t i j).1 ((opp t i j).2 + 1)) ∨ p = (cor i (j + 1), cor (opp t i j).1 (opp t i j).2) := by simpa [vp] using hp
    rcases hp' with e | e
    · subst e
      exact .pair hm (cor_bd hi _).1 (cor_bd hi _).2 (cor_bd o1 _).1 (cor_bd o1 _).2
    · subst e
      exact .pair hm (cor_bd hi _).1 (cor_bd hi _).2 (cor_bd o1 _).1 (cor_bd o1 _).2
  constructor
  · intro h
    refine h.map (fm t) (fun i a b => fb i a b) ?_
    intro a b hm _ _ _ _
    obtain ⟨i, _, hi, j, hj, hp⟩ := (mem_allG _ _).1 hm
    have hi' : i < t.length := by omega
    obtain ⟨o1, o2, o3, o4⟩ := opp_at ok hi' j
    have hs := sideOf_in ok hi' j
    have hp' : (a, b) = (cor i j, cor (opp t i j).1 ((opp t i j).2 + 1)) ∨ (a, b) = (cor i (j + 1), cor (opp t i j).1 (opp t i j).2) := by simpa [vp] using hp
    rcases hp' with e | e
    · obtain ⟨rfl, rfl⟩ := Prod.mk.inj e
      rw [fm_cor, fm_cor]
      have := epm _ _ o1 o2
      rw [o3, En_neg (by omega), Int.neg_neg] at this
      exact this
    · obtain ⟨rfl, rfl⟩ := Prod.mk.inj e
      rw [fm_cor, fm_cor, o3, ← En_neg hs.1]
      exact (epm i j hi' hj).symm
  · intro h
    have := UF.Cls.map (p2 := allG (vp t) t.length 0) (n2 := 3 * (t.length : Int)) (gm t) (fun e a b => gm_bd ok e a b) (fun a b hm _ _ _ _ => by
      obtain ⟨i, _, hi, j, hj, hp⟩ := (mem_allG _ _).1 hm
      have hi' : i < t.length := by omega
      obtain ⟨o1, o2, o3, o4⟩ := opp_at ok hi' j
      have hs := sideOf_in ok hi' j
      have hp' : (a, b) = (En (sideOf t i j), Bg (sideOf t i (j + 1))) := by simpa [ep] using hp
      obtain ⟨rfl, rfl⟩ := Prod.mk.inj hp'
      rw [En_neg hs.1, ← o3, gm_Bg' ok o1, gm_Bg' ok hi']
      exact (vpm i j hi' hj (cor i (j + 1), cor (opp t i j).1 (opp t i j).2) (by simp [vp])).symm) h
    obtain ⟨i, j, hi, hj, rfl⟩ := corOf c hc.1 hc.2
    obtain ⟨k, l, hk, hl, rfl⟩ := corOf d hd.1 hd.2
    rwa [fm_cor, fm_cor, gm_Bg' ok hi, gm_Bg' ok hk] at this
end Go.Proofs.Ytjmgbaphlhimhaa.L

namespace Go.Proofs.Ytjmgbaphlhimhaa.L
open Go.RowKit Go.Proofs.Ytjmgbaphlhimhaa.P Go.Proofs.Ytjmgbaphlhimhaa.Help Go.Proofs.YtjmgbaphlhimhaaW.PrintWords
set_option linter.unusedVariables false
set_option linter.unusedSimpArgs false

/-- Are two corners at one vertex? -/
def SameV (t : List (List Int)) (c d : Int) : Prop := UF.Cls (3 * (t.length : Int)) (allG (vp t) t.length 0) c d
noncomputable def vind (t : List (List Int)) (c d : Int) : Int := by
  classical
  exact if SameV t d c then 1 else 0
theorem vind_if {t : List (List Int)} {c d : Int} {P : Prop} [Decidable P] (h : P ↔ SameV t d c) : vind t c d = if P then 1 else 0 := by
  unfold vind
  by_cases p : P
  · rw [if_pos p, if_pos (h.1 p)]
  · rw [if_neg p, if_neg (fun q => p (h.2 q))]
theorem vind_bd (t : List (List Int)) (c d : Int) : 0 ≤ vind t c d ∧ vind t c d ≤ 1 := by
  unfold vind
  split <;> omega
noncomputable def valE (t : List (List Int)) (c e : Int) : Int := vind t c (cor (sideR e t 0).1.toNat (sideR e t 0).2.toNat) + vind t c (cor (sideR e t 0).1.toNat ((sideR e t 0).2.toNat + 1))
theorem valE_bd (t : List (List Int)) (c e : Int) : 0 ≤ valE t c e ∧ valE t c e ≤ 2 := by
  have := vind_bd t c (cor (sideR e t 0).1.toNat (sideR e t 0).2.toNat)
  have := vind_bd t c (cor (sideR e t 0).1.toNat ((sideR e t 0).2.toNat + 1))
  unfold valE
  omega
def posE (t : List (List Int)) (e : Int) : Nat := 3 * (sideR e t 0).1.toNat + (sideR e t 0).2.toNat
noncomputable def aroundR (t : List (List Int)) (n : Nat) (c : Int) : List Int := (List.range n).map fun (q : Nat) => valE t c ((q : Int) + 1)
noncomputable def stO (t : List (List Int)) (n : Nat) (c : Int) (m : Nat) : List Int := (List.range n).map fun (q : Nat) => if posE t ((q : Int) + 1) < m then valE t c ((q : Int) + 1) else 0
theorem stO_len (t : List (List Int)) (n : Nat) (c : Int) (m : Nat) : (stO t n c m).length = n := by simp [stO]
theorem stO_at {t : List (List Int)} {n : Nat} {c : Int} {m q : Nat} (h : q < (stO t n c m).length) : (stO t n c m)[q] = if posE t ((q : Int) + 1) < m then valE t c ((q : Int) + 1) else 0 := by
  have h' : q < n := by rw [stO_len] at h; exact h
  have e : (stO t n c m)[q]? = some (if posE t ((q : Int) + 1) < m then valE t c ((q : Int) + 1) else 0) := by
    unfold stO
    rw [List.getElem?_map, List.getElem?_range h']
    rfl
  rw [List.getElem?_eq_getElem h] at e
  exact Option.some.inj e
theorem posE_at {t : List (List Int)} {n : Int} (ok : TriOk t n) {i j : Nat} (hi : i < t.length) (hj : j < 3) {q : Int} (h0 : 0 < q) (h1 : q ≤ n) : posE t q = 3 * i + j ↔ sideOf t i j = q := by
  obtain ⟨o, a, ho, ha, s1, s2⟩ := ok.side (x := q) (by omega) (by omega) h1
  unfold posE
  rw [s1]
  dsimp only
  rw [Int.toNat_natCast, Int.toNat_natCast]
  constructor
  · intro e
    obtain ⟨rfl, rfl⟩ : o = i ∧ a = j := by omega
    exact s2
  · intro e
    obtain ⟨rfl, rfl⟩ := side_inj ok hi hj ho ha (e.trans s2.symm)
    rfl
theorem inc1_some {P : Prop} [Decidable P] {out : List Int} {z : Nat} (hz : z < out.length) (h0 : 0 ≤ out[z]) (h1 : out[z] ≤ 10) : inc1 P out (z : Int) = some (out.set z (out[z] + (if P then 1 else 0))) := by
  unfold inc1
  by_cases p : P
  · rw [if_pos p, if_pos p, if_pos (by omega), if_pos (by omega), rd_nat out z hz, w_id (by omega) (by omega), Int.toNat_natCast]
  · rw [if_neg p, if_neg p, Int.add_zero, List.set_getElem_self]
theorem around_l1 {t : List (List Int)} {n : Nat} (ok : TriOk t (n : Int)) {up : List Int} (S : UF.Stands up (3 * (t.length : Int)) (allG (vp t) t.length 0)) {c : Int} (hc : 0 ≤ c ∧ c < 3 * (t.length : Int)) {i : Nat} (hi : i < t.length) : ∀ (d j k : Nat), j + d = 3 → 100 + d < k →
    impl_around.l1 k t up c (stO t n c (3 * i + j)) (i : Int) (j : Int) = impl_around.l0 (k - d - 1) t up c (stO t n c (3 * i + 3)) ((i + 1 : Nat) : Int) := by
  have h3 := ok.three hi
  have hs := ok.short
  have n9 := ok.n9
  have hl : ((rd_L1 t (i : Int)).length : Int) = 3 := by rw [rdL_nat t i hi, h3]; rfl
  have hlen := S.len
  intro d
  induction d with
  | zero =>
    intro j k hj hk
    obtain ⟨k, rfl⟩ : ∃ m, k = m + 1 := ⟨k - 1, by omega⟩
    simp only [impl_around.l1]
    rw [hl, if_neg (by omega), w_n (m := i + 1) (by omega) (by omega), show 3 * i + j = 3 * i + 3 by omega]
    rfl
  | succ d ih =>
    intro j k hj hk
    obtain ⟨k, rfl⟩ : ∃ m, k = m + 1 := ⟨k - 1, by omega⟩
    have hs1 := sideOf_in ok hi j
    have ihh := ih (j + 1) k (by omega) (by omega)
    have hk' : k + 1 - (d + 1) - 1 = k - d - 1 := by omega
    have x1 : (j : Int) < 3 := by omega
    have x2 : (0 : Int) ≤ (j : Int) := by omega
    have x3 : j < 3 := by omega
    have cb1 := cor_bd hi j
    have cb2 := cor_bd hi (j + 1)
    have f1 := top_f S.ok cb1.1 (m := k) (by omega) (by omega)
    have f2 := top_f S.ok cb2.1 (m := k) (by omega) (by omega)
    have f3 := top_f S.ok hc.1 (m := k) (by omega) (by omega)
    have v1 := vind_if (t := t) (c := c) (d := cor i j) (P := UF.rt up (cor i j) = UF.rt up c) (S.same_iff cb1 hc)
    have v2 := vind_if (t := t) (c := c) (d := cor i (j + 1)) (P := UF.rt up (cor i (j + 1)) = UF.rt up c) (S.same_iff cb2 hc)
    simp only [impl_around.l1]
    rw [hl, if_pos x1, if_pos x2, rd_at ok hi x3, hk']
    by_cases neg : sideOf t i j < 0
    · have e : stO t n c (3 * i + j) = stO t n c (3 * i + (j + 1)) := by
        unfold stO
        apply List.map_congr_left
        intro q hq
        have hq' := List.mem_range.1 hq
        have hne : posE t ((q : Int) + 1) ≠ 3 * i + j := fun e => by
          have := (posE_at ok hi x3 (q := (q : Int) + 1) (by omega) (by omega)).1 e
          omega
        by_cases h : posE t ((q : Int) + 1) < 3 * i + j
        · rw [if_pos h, if_pos (by omega)]
        · rw [if_neg h, if_neg (by omega)]
      rw [if_pos neg, show wrap64 ((j : Int) + 1) = ((j + 1 : Nat) : Int) from w_n (by omega) (by omega), e]
      exact ihh
    · obtain ⟨z, hz⟩ : ∃ z : Nat, sideOf t i j = (z : Int) + 1 := ⟨(sideOf t i j - 1).toNat, by omega⟩
      have hzn : z < n := by omega
      have hpos : posE t ((z : Int) + 1) = 3 * i + j := (posE_at ok hi x3 (by omega) (by omega)).2 hz
      have hzl : z < (stO t n c (3 * i + j)).length := by rw [stO_len]; exact hzn
      have g0 : (stO t n c (3 * i + j))[z] = 0 := by
        rw [stO_at, hpos, if_neg (by omega)]
      have bb : ∀ (P : Prop) [Decidable P], (0 : Int) ≤ (if P then 1 else 0) ∧ (if P then 1 else 0 : Int) ≤ 1 := fun P _ => by split <;> omega
      have b1 := bb (UF.rt up (cor i j) = UF.rt up c)
      have I1 := inc1_some (P := UF.rt up (cor i j) = UF.rt up c) hzl (by omega) (by omega)
      rw [g0, Int.zero_add] at I1
      have hzl2 : z < ((stO t n c (3 * i + j)).set z (if UF.rt up (cor i j) = UF.rt up c then 1 else 0)).length := by rw [List.length_set]; exact hzl
      have I2 := inc1_some (P := UF.rt up (cor i (j + 1)) = UF.rt up c) hzl2 (by rw [List.getElem_set_self]; omega) (by rw [List.getElem_set_self]; omega)
      rw [List.getElem_set_self, List.set_set] at I2
      have hv : valE t c ((z : Int) + 1) = (if UF.rt up (cor i j) = UF.rt up c then 1 else 0) + (if UF.rt up (cor i (j + 1)) = UF.rt up c then 1 else 0) := by
        unfold valE
        rw [← hz, side_at ok hi x3]
        dsimp only
        rw [Int.toNat_natCast, Int.toNat_natCast, v1, v2]
      have e : (stO t n c (3 * i + j)).set z ((if UF.rt up (cor i j) = UF.rt up c then 1 else 0) + (if UF.rt up (cor i (j + 1)) = UF.rt up c then 1 else 0)) = stO t n c (3 * i + (j + 1)) := by
        rw [← hv]
        apply List.ext_getElem
        · rw [List.length_set, stO_len, stO_len]
        · intro q hq1 hq2
          have hq3 := hq2
          rw [stO_len] at hq3
          by_cases hq : q = z
          · subst hq
            rw [List.getElem_set_self]
            rw [stO_at, hpos, if_pos (by omega)]
          · rw [List.getElem_set_ne (by omega)]
            rw [stO_at, stO_at]
            have hne : posE t ((q : Int) + 1) ≠ 3 * i + j := fun e => by
              have := (posE_at ok hi x3 (q := (q : Int) + 1) (by omega) (by omega)).1 e
              omega
            by_cases h : posE t ((q : Int) + 1) < 3 * i + j
            · rw [if_pos h, if_pos (by omega)]
            · rw [if_neg h, if_neg (by omega)]
      rw [if_neg neg, show wrap64 ((j : Int) + 1) = ((j + 1 : Nat) : Int) from w_n (by omega) (by omega), tmod3, show wrap64 (3 * (i : Int)) = ((3 * i : Nat) : Int) from w_n (by omega) (by omega),
        show wrap64 (((3 * i : Nat) : Int) + (j : Int)) = cor i j from by rw [w_n (m := 3 * i + j) (by omega) (by omega)]; unfold cor; omega,
        show wrap64 (((3 * i : Nat) : Int) + ((((j + 1) % 3 : Nat)) : Int)) = cor i (j + 1) from by rw [w_n (m := 3 * i + (j + 1) % 3) (by omega) (by omega)]; unfold cor; omega,
        f1, Option.bind_some, f3, Option.bind_some, hz, show wrap64 ((z : Int) + 1 - 1) = (z : Int) from w_n (by omega) (by omega), I1, Option.bind_some, f2, Option.bind_some, Option.bind_some, I2, Option.bind_some, e]
      exact ihh
theorem around_l0 {t : List (List Int)} {n : Nat} (ok : TriOk t (n : Int)) {up : List Int} (S : UF.Stands up (3 * (t.length : Int)) (allG (vp t) t.length 0)) {c : Int} (hc : 0 ≤ c ∧ c < 3 * (t.length : Int)) : ∀ (d i k : Nat), i + d = t.length → 200 + 5 * d < k →
    impl_around.l0 k t up c (stO t n c (3 * i)) (i : Int) = some (stO t n c (3 * t.length)) := by
  intro d
  induction d with
  | zero =>
    intro i k hi hk
    obtain ⟨k, rfl⟩ : ∃ m, k = m + 1 := ⟨k - 1, by omega⟩
    simp only [impl_around.l0]
    rw [if_neg (by omega), show i = t.length by omega]
  | succ d ih =>
    intro i k hi hk
    obtain ⟨k, rfl⟩ : ∃ m, k = m + 1 := ⟨k - 1, by omega⟩
    have e1 := around_l1 ok S hc (i := i) (by omega) 3 0 k (by omega) (by omega)
    have e2 := ih (i + 1) (k - 3 - 1) (by omega) (by omega)
    simp only [impl_around.l0]
    rw [if_pos (by omega), if_pos (by omega)]
    have e1' : impl_around.l1 k t up c (stO t n c (3 * i)) (i : Int) 0 = impl_around.l0 (k - 3 - 1) t up c (stO t n c (3 * i + 3)) ((i + 1 : Nat) : Int) := e1
    rw [e1', show 3 * i + 3 = 3 * (i + 1) by omega, e2]
theorem impl_around_f {t : List (List Int)} {n : Nat} (ok : TriOk t (n : Int)) (ht : t.length ≤ 1048576) (hr : ∀ r ∈ t, r.length ≤ 1048576) {c : Int} (hc : 0 ≤ c ∧ c < 3 * (t.length : Int)) (k : Nat) (hk : 3000300 < k) : impl_around.f k t c = some (aroundR t n c) := by
  obtain ⟨up, e, S⟩ := vert_f ok ht hr k hk
  have hs := ok.short
  have hl := ok.len
  have hE : wrap64 (Int.tdiv (wrap64 (3 * (t.length : Int))) 2) = (n : Int) := by
    rw [show wrap64 (3 * (t.length : Int)) = ((3 * t.length : Nat) : Int) from w_n (by omega) (by omega), Int.tdiv_eq_ediv_of_nonneg (by omega), w_n (m := n) (by omega) (by omega)]
  unfold impl_around.f
  rw [e, Option.bind_some, hE, if_pos (by omega), if_pos (by omega), Int.toNat_natCast]
  have h0 : List.replicate n (0 : Int) = stO t n c (3 * 0) := by
    unfold stO
    apply List.ext_getElem
    · simp
    · intro q h1 h2
      simp
  have h1 : stO t n c (3 * t.length) = aroundR t n c := by
    unfold stO aroundR
    apply List.map_congr_left
    intro q hq
    have hq' := List.mem_range.1 hq
    obtain ⟨o, a, ho, ha, s1, s2⟩ := ok.side (x := (q : Int) + 1) (by omega) (by omega) (by omega)
    rw [if_pos (by unfold posE; rw [s1]; dsimp only; omega)]
  rw [h0, ← h1]
  exact around_l0 ok S hc t.length 0 k (by omega) (by omega)
theorem spec_around_l0 {t : List (List Int)} {n : Nat} (ok : TriOk t (n : Int)) {u2 : List Int} (S : UF.Stands u2 (3 * (t.length : Int) + 2) (allG (ep t) t.length 0)) {i j : Nat} (hi : i < t.length) (hj : j < 3) : ∀ (d q k : Nat), q + d = n → 100 + d < k →
    spec_l15Around.l0 k t u2 (UF.rt u2 (En (sideOf t i j))) ((List.range q).map fun (q : Nat) => valE t (cor i (j + 1)) ((q : Int) + 1)) ((q : Int) + 1) = some (aroundR t n (cor i (j + 1))) := by
  have hs := ok.short
  have hl := ok.len
  have n9 := ok.n9
  have hn := S.len
  have hE : wrap64 (Int.tdiv (wrap64 (3 * (t.length : Int))) 2) = (n : Int) := by
    rw [show wrap64 (3 * (t.length : Int)) = ((3 * t.length : Nat) : Int) from w_n (by omega) (by omega), Int.tdiv_eq_ediv_of_nonneg (by omega), w_n (m := n) (by omega) (by omega)]
  have epm : ∀ a b : Nat, a < t.length → b < 3 → UF.Cls (3 * (t.length : Int) + 2) (allG (ep t) t.length 0) (En (sideOf t a b)) (fm t (cor a (b + 1))) := by
    intro a b ha hb
    rw [fm_cor]
    exact .pair ((mem_allG _ _).2 ⟨a, by omega, by omega, b, hb, by simp [ep]⟩) (En_bd ok ha b).1 (En_bd ok ha b).2 (Bg_bd ok ha (b + 1)).1 (Bg_bd ok ha (b + 1)).2
  intro d
  induction d with
  | zero =>
    intro q k hq hk
    obtain ⟨k, rfl⟩ : ∃ m, k = m + 1 := ⟨k - 1, by omega⟩
    simp only [spec_l15Around.l0]
    rw [hE, if_neg (by omega), show q = n by omega]
    rfl
  | succ d ih =>
    intro q k hq hk
    obtain ⟨k, rfl⟩ : ∃ m, k = m + 1 := ⟨k - 1, by omega⟩
    obtain ⟨o, a, ho, ha, s1, s2⟩ := ok.side (x := (q : Int) + 1) (by omega) (by omega) (by omega)
    have eB : Bg ((q : Int) + 1) = 2 * ((q : Int) + 1) := by unfold Bg; rw [if_neg (by omega)]; omega
    have eE : En ((q : Int) + 1) = 2 * ((q : Int) + 1) + 1 := by unfold En; rw [if_pos (by omega)]; omega
    have bB := Bg_bd ok ho a
    have bE := En_bd ok ho a
    have bv := En_bd ok hi j
    rw [s2, eB] at bB
    rw [s2, eE] at bE
    have f1 := find3_f S.ok bB.1 (m := k) (by omega) (by omega)
    have f2 := find3_f S.ok bE.1 (m := k) (by omega) (by omega)
    have c1 : UF.rt u2 (2 * ((q : Int) + 1)) = UF.rt u2 (En (sideOf t i j)) ↔ SameV t (cor o a) (cor i (j + 1)) := by
      rw [S.same_iff bB bv]
      unfold SameV
      rw [cls_fm ok (cor_bd ho a) (cor_bd hi (j + 1)), show fm t (cor o a) = 2 * ((q : Int) + 1) from by rw [fm_cor, s2, eB]]
      exact ⟨fun h => h.trans (epm i j hi hj), fun h => h.trans (epm i j hi hj).symm⟩
    have c2 : UF.rt u2 (2 * ((q : Int) + 1) + 1) = UF.rt u2 (En (sideOf t i j)) ↔ SameV t (cor o (a + 1)) (cor i (j + 1)) := by
      rw [S.same_iff bE bv]
      unfold SameV
      rw [cls_fm ok (cor_bd ho (a + 1)) (cor_bd hi (j + 1))]
      have e0 := epm o a ho ha
      rw [s2, eE] at e0
      exact ⟨fun h => e0.symm.trans (h.trans (epm i j hi hj)), fun h => e0.trans (h.trans (epm i j hi hj).symm)⟩
    have d1 := vind_if c1
    have d2 := vind_if c2
    have hv : valE t (cor i (j + 1)) ((q : Int) + 1) = (if UF.rt u2 (2 * ((q : Int) + 1)) = UF.rt u2 (En (sideOf t i j)) then 1 else 0) + (if UF.rt u2 (2 * ((q : Int) + 1) + 1) = UF.rt u2 (En (sideOf t i j)) then 1 else 0) := by
      unfold valE
      rw [s1]
      dsimp only
      rw [Int.toNat_natCast, Int.toNat_natCast, d1, d2]
    have vb := valE_bd t (cor i (j + 1)) ((q : Int) + 1)
    have hw : wrap64 ((if UF.rt u2 (2 * ((q : Int) + 1)) = UF.rt u2 (En (sideOf t i j)) then 1 else 0) + (if UF.rt u2 (2 * ((q : Int) + 1) + 1) = UF.rt u2 (En (sideOf t i j)) then 1 else 0)) = valE t (cor i (j + 1)) ((q : Int) + 1) := by
      rw [← hv]
      exact w_id (by omega) (by omega)
    have ihh := ih (q + 1) k (by omega) (by omega)
    have y1 : ((q : Int) + 1) ≤ (n : Int) := by omega
    have y2 : ((List.range q).map fun (q : Nat) => valE t (cor i (j + 1)) ((q : Int) + 1)).length < 17592186044416 := by rw [List.length_map, List.length_range]; omega
    have w1 : wrap64 (2 * ((q : Int) + 1)) = 2 * ((q : Int) + 1) := w_id (by omega) (by omega)
    have w2 : wrap64 (2 * ((q : Int) + 1) + 1) = 2 * ((q : Int) + 1) + 1 := by clear w1 hw; exact w_id (by omega) (by omega)
    have w3 : wrap64 ((q : Int) + 1 + 1) = ((q + 1 : Nat) : Int) + 1 := by clear w1 w2 hw; rw [w_id (by omega) (by omega)]; omega
    simp only [spec_l15Around.l0]
    rw [hE, if_pos y1, w1, f1, Option.bind_some, bit_eq, Option.bind_some, w2, f2, Option.bind_some, bit_eq, Option.bind_some, if_pos y2]
    simp only [beq_iff_eq]
    rw [hw, w3]
    rw [List.range_succ, List.map_append] at ihh
    exact ihh
theorem spec_around_f {t : List (List Int)} {n : Nat} (ok : TriOk t (n : Int)) {i j : Nat} (hi : i < t.length) (hj : j < 3) (k : Nat) (hk : 1000 < k) : spec_l15Around.f k t (i : Int) (j : Int) = some (aroundR t n (cor i (j + 1))) := by
  obtain ⟨u2, e, S⟩ := ends_f ok k hk
  have hn := S.len
  have h3 := ok.three hi
  have hs := ok.short
  have n9 := ok.n9
  have hl : ((rd_L1 t (i : Int)).length : Int) = 3 := by rw [rdL_nat t i hi, h3]; rfl
  have hs1 := sideOf_in ok hi j
  have bE := En_bd ok hi j
  have f1 := find3_f S.ok bE.1 (m := k) (by omega) (by omega)
  have x1 : (0 : Int) ≤ (i : Int) := by omega
  have x2 : (i : Int) < (t.length : Int) := by omega
  have x3 : (0 : Int) ≤ (j : Int) := by omega
  have x4 : (j : Int) < 3 := by omega
  have y1 := l3Abs_eq (a := sideOf t i j) (by omega) (by omega)
  have v1 : wrap64 (wrap64 (2 * ((sideOf t i j).natAbs : Int)) + (if decide (sideOf t i j > 0) = true then 1 else 0)) = En (sideOf t i j) := by
    rw [w_id (a := 2 * ((sideOf t i j).natAbs : Int)) (by omega) (by omega)]
    unfold En
    by_cases c : sideOf t i j > 0
    · rw [if_pos (decide_eq_true c), if_pos c, w_id (by omega) (by omega)]
    · rw [if_neg (by simpa using c), if_neg c, w_id (by omega) (by omega)]
  have fin := spec_around_l0 ok S hi hj n 0 k (by omega) (by omega)
  unfold spec_l15Around.f
  rw [e, Option.bind_some, if_pos x1, if_pos x2, hl, if_pos x3, if_pos x4, rd_at ok hi hj, y1, Option.bind_some, bit_eq, Option.bind_some, v1, f1, Option.bind_some]
  exact fin
theorem aroundR_len (t : List (List Int)) (n : Nat) (c : Int) : (aroundR t n c).length = n := by simp [aroundR]
end Go.Proofs.Ytjmgbaphlhimhaa.L

namespace Go.Proofs.Ytjmgbaphlhimhaa.L
open Go.RowKit Go.Proofs.Ytjmgbaphlhimhaa.P Go.Proofs.Ytjmgbaphlhimhaa.Help Go.Proofs.YtjmgbaphlhimhaaW.PrintWords
set_option linter.unusedVariables false
set_option linter.unusedSimpArgs false

def co (x : Int) : Bool := decide (0 ≤ x ∧ x ≤ 200)
theorem areCo_l0 (xs : List Int) (hx : xs.length ≤ 1000000000) : ∀ (d k i : Nat), i + d = xs.length → d < k → impl_areCoordinates.l0 k xs (xs.length : Int) (i : Int) = some ((xs.drop i).all co) := by
  intro d
  induction d with
  | zero =>
    intro k i hi hk
    obtain ⟨k, rfl⟩ : ∃ m, k = m + 1 := ⟨k - 1, by omega⟩
    simp only [impl_areCoordinates.l0]
    rw [if_neg (by omega), List.drop_of_length_le (by omega)]
    rfl
  | succ d ih =>
    intro k i hi hk
    obtain ⟨k, rfl⟩ : ∃ m, k = m + 1 := ⟨k - 1, by omega⟩
    have hlt : i < xs.length := by omega
    simp only [impl_areCoordinates.l0]
    rw [if_pos (by omega), if_pos (by omega), if_pos (by omega), within_eq, Option.bind_some, w_id (by omega) (by omega), show ((i : Int) + 1) = ((i + 1 : Nat) : Int) by omega, ih k (i + 1) (by omega) (by omega), List.drop_eq_getElem_cons hlt, List.all_cons, rd_nat xs i hlt]
    unfold co
    by_cases h : 0 ≤ xs[i] ∧ xs[i] ≤ 200 <;> simp [h]
theorem areCo (xs : List Int) (hx : xs.length ≤ 1000000000) (k : Nat) (hk : xs.length < k) : impl_areCoordinates.f k xs = some (xs.all co) := by
  unfold impl_areCoordinates.f
  have := areCo_l0 xs hx xs.length k 0 (by omega) hk
  rw [List.drop_zero] at this
  exact this
theorem co_true {x : Int} (h : co x = true) : 0 ≤ x ∧ x ≤ 200 := of_decide_eq_true h
end Go.Proofs.Ytjmgbaphlhimhaa.L

namespace Go.Proofs.Ytjmgbaphlhimhaa.L
open Go.RowKit Go.Proofs.Ytjmgbaphlhimhaa.P Go.Proofs.Ytjmgbaphlhimhaa.Help Go.Proofs.YtjmgbaphlhimhaaW.PrintWords
set_option linter.unusedVariables false
set_option linter.unusedSimpArgs false

/-- A side's coordinate. -/
def crd (x : List Int) (s : Int) : Int := rd x ((s.natAbs : Int) - 1)
def fairRow (x : List Int) : List Int → Bool
  | [a, b, c] => decide ((crd x a + crd x b + crd x c) % 2 = 0 ∧ crd x a ≤ crd x b + crd x c ∧ crd x b ≤ crd x a + crd x c ∧ crd x c ≤ crd x a + crd x b)
  | _ => false
def isF (t : List (List Int)) (x : List Int) : Bool := isT t && (decide ((x.length : Int) = edges t) && (x.all co && t.all (fairRow x)))
theorem crd_bd {x : List Int} (hx : x.all co = true) (s : Int) : 0 ≤ crd x s ∧ crd x s ≤ 200 := by
  unfold crd rd
  rw [List.getD_eq_getElem?_getD]
  cases h : x[((s.natAbs : Int) - 1).toNat]? with
  | none => simp
  | some y =>
    have := List.all_eq_true.1 hx y (List.mem_of_getElem? h)
    unfold co at this
    simpa using this
/-- Twice the arcs at a corner. -/
def twR (x : List Int) (a b c : Int) : Int := crd x a + crd x b - crd x c
theorem twice_eq {t : List (List Int)} {n : Int} (ok : TriOk t n) {x : List Int} (hx : (x.length : Int) = n) (hc : x.all co = true) {i : Nat} (hi : i < t.length) {a b c : Int} (e : t[i] = [a, b, c]) :
    spec_l15Twice.f t x (i : Int) 0 = some (twR x a b c) ∧ spec_l15Twice.f t x (i : Int) 1 = some (twR x b c a) ∧ spec_l15Twice.f t x (i : Int) 2 = some (twR x c a b) := by
  have n9 := ok.n9
  have hm : ∀ y ∈ [a, b, c], y ≠ 0 ∧ -n ≤ y ∧ y ≤ n := by
    intro y hy
    rw [← e] at hy
    exact ok.inr y (List.mem_flatten.2 ⟨_, List.getElem_mem hi, hy⟩)
  have ha := hm a (by simp)
  have hb := hm b (by simp)
  have hcc := hm c (by simp)
  have A := crd_bd hc a
  have B := crd_bd hc b
  have C := crd_bd hc c
  have e0 : rd [a, b, c] 0 = a := rfl
  have e1 : rd [a, b, c] 1 = b := rfl
  have e2 : rd [a, b, c] 2 = c := rfl
  have q : ∀ y : Int, y ≠ 0 ∧ -n ≤ y ∧ y ≤ n → 0 ≤ (y.natAbs : Int) - 1 ∧ (y.natAbs : Int) - 1 < x.length ∧ wrap64 ((y.natAbs : Int) - 1) = (y.natAbs : Int) - 1 := fun y hy => ⟨by omega, by omega, w_id (by omega) (by omega)⟩
  obtain ⟨qa1, qa2, qa3⟩ := q a ha
  obtain ⟨qb1, qb2, qb3⟩ := q b hb
  obtain ⟨qc1, qc2, qc3⟩ := q c hcc
  have sa := l3Abs_eq (a := a) (by omega) (by omega)
  have sb := l3Abs_eq (a := b) (by omega) (by omega)
  have sc := l3Abs_eq (a := c) (by omega) (by omega)
  have l3 : (([a, b, c] : List Int).length : Int) = 3 := rfl
  have w01 : Int.tmod (wrap64 (0 + 1)) 3 = 1 := by decide +kernel
  have w02 : Int.tmod (wrap64 (0 + 2)) 3 = 2 := by decide +kernel
  have w11 : Int.tmod (wrap64 (1 + 1)) 3 = 2 := by decide +kernel
  have w12 : Int.tmod (wrap64 (1 + 2)) 3 = 0 := by decide +kernel
  have w21 : Int.tmod (wrap64 (2 + 1)) 3 = 0 := by decide +kernel
  have w22 : Int.tmod (wrap64 (2 + 2)) 3 = 1 := by decide +kernel
  have i0 : (0 : Int) ≤ (i : Int) := by omega
  have i1 : (i : Int) < (t.length : Int) := by omega
  refine ⟨?_, ?_, ?_⟩
  · unfold spec_l15Twice.f
    rw [if_pos i0, if_pos i1, rdL_nat t i hi, e, l3, w01, w02, if_pos (by decide), if_pos (by decide), e0, sa, Option.bind_some, qa3, if_pos qa1, if_pos qa2, if_pos (by decide), if_pos (by decide), e1, sb, Option.bind_some, qb3, if_pos qb1, if_pos qb2, if_pos (by decide), if_pos (by decide), e2, sc, Option.bind_some, qc3, if_pos qc1, if_pos qc2]
    unfold twR
    unfold crd at A B C ⊢
    rw [w_id (a := rd x _ + rd x _) (by omega) (by omega), w_id (by omega) (by omega)]
  · unfold spec_l15Twice.f
    rw [if_pos i0, if_pos i1, rdL_nat t i hi, e, l3, w11, w12, if_pos (by decide), if_pos (by decide), e1, sb, Option.bind_some, qb3, if_pos qb1, if_pos qb2, if_pos (by decide), if_pos (by decide), e2, sc, Option.bind_some, qc3, if_pos qc1, if_pos qc2, if_pos (by decide), if_pos (by decide), e0, sa, Option.bind_some, qa3, if_pos qa1, if_pos qa2]
    unfold twR
    unfold crd at A B C ⊢
    rw [w_id (a := rd x _ + rd x _) (by omega) (by omega), w_id (by omega) (by omega)]
  · unfold spec_l15Twice.f
    rw [if_pos i0, if_pos i1, rdL_nat t i hi, e, l3, w21, w22, if_pos (by decide), if_pos (by decide), e2, sc, Option.bind_some, qc3, if_pos qc1, if_pos qc2, if_pos (by decide), if_pos (by decide), e0, sa, Option.bind_some, qa3, if_pos qa1, if_pos qa2, if_pos (by decide), if_pos (by decide), e1, sb, Option.bind_some, qb3, if_pos qb1, if_pos qb2]
    unfold twR
    unfold crd at A B C ⊢
    rw [w_id (a := rd x _ + rd x _) (by omega) (by omega), w_id (by omega) (by omega)]
theorem spec_fair_l2 {t : List (List Int)} {n : Int} (ok : TriOk t n) {x : List Int} (hx : (x.length : Int) = n) (hc : x.all co = true) {i : Nat} (hi : i < t.length) (k : Nat) :
    spec_IsFair.l2 (k + 4) t x (i : Int) 0 = if fairRow x t[i] = true then spec_IsFair.l1 k t x (wrap64 ((i : Int) + 1)) else some false := by
  obtain ⟨a, b, c, e, _⟩ := ok.i64 (List.getElem_mem hi)
  obtain ⟨h0, h1, h2⟩ := twice_eq ok hx hc hi e
  have A := crd_bd hc a
  have B := crd_bd hc b
  have C := crd_bd hc c
  have hf : fairRow x t[i] = decide ((crd x a + crd x b + crd x c) % 2 = 0 ∧ crd x a ≤ crd x b + crd x c ∧ crd x b ≤ crd x a + crd x c ∧ crd x c ≤ crd x a + crd x b) := by rw [e]; rfl
  rw [hf]
  unfold twR at h0 h1 h2
  have no : ∀ (P : Prop) [Decidable P] (α : Type) (u v : α), ¬ P → (if decide P = true then u else v) = v := fun P _ α u v h => by simp [h]
  simp only [spec_IsFair.l2]
  rw [if_pos (by decide), h0, Option.bind_some]
  by_cases c0 : crd x a + crd x b - crd x c < 0
  · rw [if_pos c0, no _ _ _ _ (by omega)]
  · rw [if_neg c0, Int.tmod_eq_emod_of_nonneg (by omega)]
    by_cases d0 : (crd x a + crd x b - crd x c) % 2 = 0
    · rw [if_pos d0, show wrap64 (0 + 1) = 1 by decide +kernel]
      rw [if_pos (by decide), h1, Option.bind_some]
      by_cases c1 : crd x b + crd x c - crd x a < 0
      · rw [if_pos c1, no _ _ _ _ (by omega)]
      · rw [if_neg c1, Int.tmod_eq_emod_of_nonneg (by omega), if_pos (by omega), show wrap64 (1 + 1) = 2 by decide +kernel]
        rw [if_pos (by decide), h2, Option.bind_some]
        by_cases c2 : crd x c + crd x a - crd x b < 0
        · rw [if_pos c2, no _ _ _ _ (by omega)]
        · rw [if_neg c2, Int.tmod_eq_emod_of_nonneg (by omega), if_pos (by omega), show wrap64 (2 + 1) = 3 by decide +kernel]
          rw [if_neg (by decide), if_pos (by rw [decide_eq_true_iff]; omega)]
    · rw [if_neg d0, no _ _ _ _ (by omega)]
theorem spec_fair_l1 {t : List (List Int)} {n : Int} (ok : TriOk t n) {x : List Int} (hx : (x.length : Int) = n) (hc : x.all co = true) : ∀ (d i k : Nat), i + d = t.length → 6 * d < k → spec_IsFair.l1 k t x (i : Int) = some ((t.drop i).all (fairRow x)) := by
  have hs := ok.short
  intro d
  induction d with
  | zero =>
    intro i k hi hk
    obtain ⟨k, rfl⟩ : ∃ m, k = m + 1 := ⟨k - 1, by omega⟩
    simp only [spec_IsFair.l1]
    rw [if_neg (by omega), List.drop_of_length_le (by omega)]
    rfl
  | succ d ih =>
    intro i k hi hk
    obtain ⟨k, rfl⟩ : ∃ m, k = m + 5 := ⟨k - 5, by omega⟩
    have hlt : i < t.length := by omega
    rw [show k + 5 = (k + 4) + 1 from rfl]
    simp only [spec_IsFair.l1]
    rw [if_pos (by omega), spec_fair_l2 ok hx hc hlt k, w_id (by omega) (by omega), show ((i : Int) + 1) = ((i + 1 : Nat) : Int) by omega, ih (i + 1) k (by omega) (by omega), List.drop_eq_getElem_cons hlt, List.all_cons]
    by_cases h : fairRow x t[i] = true
    · rw [if_pos h, h, Bool.true_and]
    · rw [if_neg h]
      simp at h
      rw [h, Bool.false_and]
theorem spec_fair_l0 {t : List (List Int)} {n : Int} (ok : TriOk t n) {x : List Int} (hx : (x.length : Int) = n) : ∀ (d i k : Nat), i + d = x.length → 100 + d < k → (x.take i).all co = true → spec_IsFair.l0 k t x (i : Int) = some (x.all co && t.all (fairRow x)) := by
  have hs := ok.short
  have n9 := ok.n9
  intro d
  induction d with
  | zero =>
    intro i k hi hk ht
    obtain ⟨k, rfl⟩ : ∃ m, k = m + 1 := ⟨k - 1, by omega⟩
    simp only [spec_IsFair.l0]
    rw [List.take_of_length_le (by omega)] at ht
    have := spec_fair_l1 ok hx ht t.length 0 k (by omega) (by omega)
    rw [List.drop_zero] at this
    rw [if_neg (by omega), ht, Bool.true_and]
    exact this
  | succ d ih =>
    intro i k hi hk ht
    obtain ⟨k, rfl⟩ : ∃ m, k = m + 1 := ⟨k - 1, by omega⟩
    have hlt : i < x.length := by omega
    simp only [spec_IsFair.l0]
    rw [if_pos (by omega), if_pos (by omega), rd_nat x i hlt, l1In_eq, Option.bind_some]
    by_cases h : 0 ≤ x[i] ∧ x[i] ≤ 200
    · rw [if_pos (by simpa using h), w_id (by omega) (by omega), show ((i : Int) + 1) = ((i + 1 : Nat) : Int) by omega]
      refine ih (i + 1) k (by omega) (by omega) ?_
      rw [List.take_succ_eq_append_getElem hlt, List.all_append, ht]
      simp [co, h]
    · rw [if_neg (by simpa using h)]
      have : x.all co = false := by
        rw [List.all_eq_false]
        exact ⟨x[i], List.getElem_mem hlt, by unfold co; simpa using h⟩
      rw [this, Bool.false_and]
theorem spec_fair (t : List (List Int)) (ht : t.length ≤ 1048576) (x : List Int) (k : Nat) (hk : 6000001 < k) : spec_IsFair.f k t x = some (isF t x) := by
  obtain ⟨k, rfl⟩ : ∃ m, k = m + 1 := ⟨k - 1, by omega⟩
  unfold spec_IsFair.f isF
  rw [spec_isT t ht _ (by omega), Option.bind_some]
  simp only [spec_IsFair.j0]
  rw [show wrap64 (Int.tdiv (wrap64 (3 * (t.length : Int))) 2) = edges t from rfl]
  by_cases h : isT t = true
  · have ok := isT_ok ht h
    have n9 := ok.n9
    rw [if_pos h, h]
    by_cases h2 : (x.length : Int) = edges t
    · have := spec_fair_l0 ok h2 x.length 0 k (by omega) (by omega) (by simp)
      rw [if_neg (by simpa using h2), decide_eq_true h2, Bool.true_and, Bool.true_and]
      exact this
    · rw [if_pos (by simpa using h2), decide_eq_false h2, Bool.false_and, Bool.and_false]
  · rw [if_neg h, if_pos trivial]
    simp at h
    rw [h, Bool.false_and]
theorem impl_fair_l0 {t : List (List Int)} {n : Int} (ok : TriOk t n) {x : List Int} (hx : (x.length : Int) = n) (hc : x.all co = true) : ∀ (d i k : Nat), i + d = t.length → d < k → impl_IsFair.l0 k x t (t.length : Int) (i : Int) = some ((t.drop i).all (fairRow x)) := by
  have hs := ok.short
  have n9 := ok.n9
  intro d
  induction d with
  | zero =>
    intro i k hi hk
    obtain ⟨k, rfl⟩ : ∃ m, k = m + 1 := ⟨k - 1, by omega⟩
    simp only [impl_IsFair.l0]
    rw [if_neg (by omega), List.drop_of_length_le (by omega)]
    rfl
  | succ d ih =>
    intro i k hi hk
    obtain ⟨k, rfl⟩ : ∃ m, k = m + 1 := ⟨k - 1, by omega⟩
    have hlt : i < t.length := by omega
    obtain ⟨a, b, c, e, ha, hb, hcc⟩ := ok.i64 (List.getElem_mem hlt)
    have A := crd_bd hc a
    have B := crd_bd hc b
    have C := crd_bd hc c
    have q : ∀ y : Int, y ≠ 0 ∧ -n ≤ y ∧ y ≤ n → 0 ≤ (y.natAbs : Int) - 1 ∧ (y.natAbs : Int) - 1 < x.length ∧ wrap64 ((y.natAbs : Int) - 1) = (y.natAbs : Int) - 1 := fun y hy => ⟨by omega, by omega, w_id (by omega) (by omega)⟩
    obtain ⟨qa1, qa2, qa3⟩ := q a ha
    obtain ⟨qb1, qb2, qb3⟩ := q b hb
    obtain ⟨qc1, qc2, qc3⟩ := q c hcc
    have sa := size_eq (a := a) (by omega) (by omega)
    have sb := size_eq (a := b) (by omega) (by omega)
    have sc := size_eq (a := c) (by omega) (by omega)
    have l3 : (([a, b, c] : List Int).length : Int) = 3 := rfl
    have e0 : rd [a, b, c] 0 = a := rfl
    have e1 : rd [a, b, c] 1 = b := rfl
    have e2 : rd [a, b, c] 2 = c := rfl
    have hf : fairRow x t[i] = decide ((crd x a + crd x b + crd x c) % 2 = 0 ∧ crd x a ≤ crd x b + crd x c ∧ crd x b ≤ crd x a + crd x c ∧ crd x c ≤ crd x a + crd x b) := by rw [e]; rfl
    simp only [impl_IsFair.l0]
    rw [List.drop_eq_getElem_cons hlt, List.all_cons, hf]
    rw [if_pos (by omega), if_pos (by omega), if_pos (by omega), rdL_nat t i hlt, e, l3, e0, e1, e2, if_pos (by decide), sa, Option.bind_some, qa3, if_pos qa1, if_pos qa2, if_pos (by decide), sb, Option.bind_some, qb3, if_pos qb1, if_pos qb2, if_pos (by decide), sc, Option.bind_some, qc3, if_pos qc1, if_pos qc2]
    rw [show rd x ((a.natAbs : Int) - 1) = crd x a from rfl, show rd x ((b.natAbs : Int) - 1) = crd x b from rfl, show rd x ((c.natAbs : Int) - 1) = crd x c from rfl]
    rw [w_id (a := crd x a + crd x b) (by omega) (by omega), w_id (a := crd x a + crd x b + crd x c) (by omega) (by omega), w_id (a := crd x b + crd x c) (by omega) (by omega), w_id (a := crd x a + crd x c) (by omega) (by omega), Int.tmod_eq_emod_of_nonneg (by omega), w_id (a := (i : Int) + 1) (by omega) (by omega), show ((i : Int) + 1) = ((i + 1 : Nat) : Int) by omega, ih (i + 1) k (by omega) (by omega)]
    have no : ∀ (P : Prop) [Decidable P] (u : Bool), ¬ P → (decide P && u) = false := fun P _ u h => by simp [h]
    by_cases c0 : (crd x a + crd x b + crd x c) % 2 = 0
    · rw [if_pos c0]
      by_cases c1 : crd x a > crd x b + crd x c
      · rw [if_pos c1, no _ _ (by omega)]
      · rw [if_neg c1]
        by_cases c2 : crd x b > crd x a + crd x c
        · rw [if_pos c2, no _ _ (by omega)]
        · rw [if_neg c2]
          by_cases c3 : crd x c > crd x a + crd x b
          · rw [if_pos c3, no _ _ (by omega)]
          · rw [if_neg c3, decide_eq_true (by omega), Bool.true_and]
    · rw [if_neg c0, no _ _ (by omega)]
theorem impl_fair (t : List (List Int)) (ht : t.length ≤ 1048576) (x : List Int) (k : Nat) (hk : 6000001 < k) : impl_IsFair.f k t x = some (isF t x) := by
  obtain ⟨k, rfl⟩ : ∃ m, k = m + 1 := ⟨k - 1, by omega⟩
  unfold impl_IsFair.f isF
  rw [impl_isT t ht _ (by omega), Option.bind_some]
  simp only [impl_IsFair.j0]
  rw [show wrap64 (Int.tdiv (wrap64 (3 * (t.length : Int))) 2) = edges t from rfl]
  by_cases h : isT t = true
  · have ok := isT_ok ht h
    have n9 := ok.n9
    have hs := ok.short
    rw [if_pos h, h]
    by_cases h2 : (x.length : Int) = edges t
    · rw [if_pos h2, decide_eq_true h2, Bool.true_and, Bool.true_and, areCo x (by omega) _ (by omega), Option.bind_some]
      by_cases h3 : x.all co = true
      · have := impl_fair_l0 ok h2 h3 t.length 0 k (by omega) (by omega)
        rw [List.drop_zero] at this
        rw [h3, if_neg (by decide), Bool.true_and]
        exact this
      · rw [Bool.eq_false_iff.mpr h3, if_pos (by decide), Bool.false_and]
    · rw [if_neg h2, if_pos trivial, decide_eq_false h2, Bool.false_and, Bool.and_false]
  · rw [if_neg h, if_pos trivial]
    simp at h
    rw [h, Bool.false_and]
end Go.Proofs.Ytjmgbaphlhimhaa.L

namespace Go.Proofs.Ytjmgbaphlhimhaa.L
open Go.RowKit Go.Proofs.Ytjmgbaphlhimhaa.P Go.Proofs.Ytjmgbaphlhimhaa.Help Go.Proofs.YtjmgbaphlhimhaaW.PrintWords
set_option linter.unusedVariables false
set_option linter.unusedSimpArgs false

/-- The arcs at a corner, twice. -/
def tw (t : List (List Int)) (x : List Int) (i j : Nat) : Int := crd x (sideOf t i j) + crd x (sideOf t i (j + 1)) - crd x (sideOf t i (j + 2))
theorem isF_ok {t : List (List Int)} {x : List Int} (ht : t.length ≤ 1048576) (h : isF t x = true) : TriOk t (edges t) ∧ (x.length : Int) = edges t ∧ x.all co = true ∧ ∀ r ∈ t, fairRow x r = true := by
  unfold isF at h
  rw [Bool.and_eq_true, Bool.and_eq_true, Bool.and_eq_true, decide_eq_true_iff] at h
  exact ⟨isT_ok ht h.1, h.2.1, h.2.2.1, fun r hr => List.all_eq_true.1 h.2.2.2 r hr⟩
theorem tw_even {t : List (List Int)} {x : List Int} {n : Int} (ok : TriOk t n) (hc : x.all co = true) {i : Nat} (hi : i < t.length) (hf : fairRow x t[i] = true) (j : Nat) (hj : j < 3) : 0 ≤ tw t x i j ∧ tw t x i j ≤ 400 ∧ tw t x i j % 2 = 0 := by
  obtain ⟨a, b, c, e, _⟩ := ok.i64 (List.getElem_mem hi)
  have A := crd_bd hc a
  have B := crd_bd hc b
  have C := crd_bd hc c
  have hf2 : decide ((crd x a + crd x b + crd x c) % 2 = 0 ∧ crd x a ≤ crd x b + crd x c ∧ crd x b ≤ crd x a + crd x c ∧ crd x c ≤ crd x a + crd x b) = true := by rw [e] at hf; exact hf
  rw [decide_eq_true_iff] at hf2
  obtain ⟨s0, s1, s2, s3, s4⟩ := sideOf_eq hi e
  unfold tw
  match j, hj with
  | 0, _ => rw [s0, s1, s2]; omega
  | 1, _ => rw [s1, s2, s3]; omega
  | 2, _ => rw [s2, s3, s4]; omega
theorem twice_tw {t : List (List Int)} {n : Int} (ok : TriOk t n) {x : List Int} (hx : (x.length : Int) = n) (hc : x.all co = true) {i : Nat} (hi : i < t.length) (j : Nat) (hj : j < 3) : spec_l15Twice.f t x (i : Int) (j : Int) = some (tw t x i j) := by
  obtain ⟨a, b, c, e, _⟩ := ok.i64 (List.getElem_mem hi)
  obtain ⟨h0, h1, h2⟩ := twice_eq ok hx hc hi e
  obtain ⟨s0, s1, s2, s3, s4⟩ := sideOf_eq hi e
  unfold tw
  match j, hj with
  | 0, _ => rw [s0, s1, s2]; exact h0
  | 1, _ => rw [s1, s2, s3]; exact h1
  | 2, _ => rw [s2, s3, s4]; exact h2
theorem arcsAt_eq {t : List (List Int)} {n : Int} (ok : TriOk t n) {x : List Int} (hx : (x.length : Int) = n) {i : Nat} (hi : i < t.length) (j : Nat) (hj : j < 1000) : arcsAt.f t x (i : Int) (j : Int) = some (crd x (sideOf t i j)) := by
  have n9 := ok.n9
  have h3 := ok.three hi
  have hjl : j % 3 < t[i].length := by omega
  have hs := sideOf_in ok hi j
  have e : rd (rd_L1 t (i : Int)) (Int.tmod (j : Int) 3) = sideOf t i j := by
    rw [rdL_nat t i hi, Int.tmod_eq_emod_of_nonneg (by omega), show ((j : Int) % 3) = ((j % 3 : Nat) : Int) by omega, rd_nat _ _ hjl]
    unfold sideOf
    rw [getD_at _ hi, getD_at _ hjl]
  unfold arcsAt.f
  rw [if_pos (by omega), if_pos (by omega), if_pos (by rw [Int.tmod_eq_emod_of_nonneg (by omega)]; omega), if_pos (by rw [rdL_nat t i hi, Int.tmod_eq_emod_of_nonneg (by omega)]; omega), e, size_eq (by omega) (by omega), Option.bind_some, w_id (by omega) (by omega), if_pos (by omega), if_pos (by omega)]
  rfl
end Go.Proofs.Ytjmgbaphlhimhaa.L


namespace Go.Proofs.Ytjmgbaphlhimhaa.L
open Go.RowKit Go.Proofs.Ytjmgbaphlhimhaa.P Go.Proofs.Ytjmgbaphlhimhaa.Help Go.Proofs.YtjmgbaphlhimhaaW.PrintWords
set_option linter.unusedVariables false
set_option linter.unusedSimpArgs false

def subL : List Int → List Int → List Int
  | x :: xs, y :: ys => (x - y) :: subL xs ys
  | _, _ => []
def sumP : List Int → Int
  | [] => 0
  | x :: xs => x + sumP xs
theorem subL_len : ∀ (x y : List Int), x.length = y.length → (subL x y).length = x.length
  | [], [], _ => rfl
  | [], _ :: _, h => by simp at h
  | _ :: _, [], h => by simp at h
  | x :: xs, y :: ys, h => by
    rw [subL, List.length_cons, List.length_cons, subL_len xs ys (by simpa using h)]
theorem subL_at : ∀ (x y : List Int) (i : Nat), x.length = y.length → (h : i < x.length) → (h2 : i < y.length) → (h3 : i < (subL x y).length) → (subL x y)[i] = x[i] - y[i]
  | [], [], i, _, h, _, _ => by simp at h
  | [], _ :: _, _, h, _, _, _ => by simp at h
  | _ :: _, [], _, h, _, _, _ => by simp at h
  | x :: xs, y :: ys, 0, _, _, _, _ => rfl
  | x :: xs, y :: ys, i + 1, h, h1, h2, h3 => by
    have h1' : i < xs.length := by simpa using h1
    have h2' : i < ys.length := by simpa using h2
    have h4 : i < (subL xs ys).length := by rw [subL_len xs ys (by simpa using h)]; exact h1'
    have ih := subL_at xs ys i (by simpa using h) h1' h2' h4
    simp only [subL, List.getElem_cons_succ]
    exact ih
theorem sumP_sub : ∀ (x y : List Int), x.length = y.length → sumP (subL x y) = sumP x - sumP y
  | [], [], _ => rfl
  | [], _ :: _, h => by simp at h
  | _ :: _, [], h => by simp at h
  | x :: xs, y :: ys, h => by
    rw [subL, sumP, sumP, sumP, sumP_sub xs ys (by simpa using h)]
    omega
theorem sumP_nn : ∀ (x : List Int), (∀ a ∈ x, 0 ≤ a) → 0 ≤ sumP x
  | [], _ => by simp [sumP]
  | a :: xs, h => by
    have := h a List.mem_cons_self
    have := sumP_nn xs (fun b hb => h b (List.mem_cons_of_mem _ hb))
    rw [sumP]
    omega
theorem sumP_pos : ∀ (x : List Int), (∀ a ∈ x, 0 ≤ a) → (∃ a ∈ x, 1 ≤ a) → 1 ≤ sumP x
  | [], _, h => by obtain ⟨a, ha, _⟩ := h; exact absurd ha (by simp)
  | b :: xs, h, ⟨a, ha, h1⟩ => by
    have h0 := h b List.mem_cons_self
    have hn := sumP_nn xs (fun b hb => h b (List.mem_cons_of_mem _ hb))
    rw [sumP]
    rcases List.mem_cons.1 ha with e | e
    · subst e; omega
    · have := sumP_pos xs (fun b hb => h b (List.mem_cons_of_mem _ hb)) ⟨a, e, h1⟩
      omega
theorem sumP_le : ∀ (x : List Int), (∀ a ∈ x, a ≤ 200) → sumP x ≤ 200 * x.length
  | [], _ => by simp [sumP]
  | a :: xs, h => by
    have := h a List.mem_cons_self
    have := sumP_le xs (fun b hb => h b (List.mem_cons_of_mem _ hb))
    rw [sumP, List.length_cons]
    omega
theorem co_at {x : List Int} (hc : x.all co = true) {a : Int} (ha : a ∈ x) : 0 ≤ a ∧ a ≤ 200 := co_true (List.all_eq_true.1 hc a ha)
theorem crd_nat {x : List Int} {s : Int} {e : Nat} (hs : (s.natAbs : Int) = (e : Int) + 1) (he : e < x.length) : crd x s = x[e] := by
  unfold crd
  rw [hs, show (e : Int) + 1 - 1 = (e : Int) by omega, rd_nat x e he]
theorem SameV.symm {t : List (List Int)} {c d : Int} (h : SameV t c d) : SameV t d c := UF.Cls.symm h
theorem SameV.trans {t : List (List Int)} {c d e : Int} (h : SameV t c d) (h2 : SameV t d e) : SameV t c e := UF.Cls.trans h h2
theorem vind_same {t : List (List Int)} {c d e : Int} (h : SameV t d e) : vind t c d = vind t c e := by
  unfold vind
  by_cases p : SameV t d c
  · rw [if_pos p, if_pos (h.symm.trans p)]
  · rw [if_neg p, if_neg (fun q => p (h.trans q))]
theorem cor_mod (i j : Nat) : cor i (j % 3) = cor i j := by
  unfold cor
  rw [Nat.mod_mod]
theorem cor_mod1 (i j : Nat) : cor i (j % 3 + 1) = cor i (j + 1) := by
  unfold cor
  rw [show (j % 3 + 1) % 3 = (j + 1) % 3 by omega]
/-- What the curve around a vertex says of a side: its two corners at the vertex. -/
theorem around_side {t : List (List Int)} {n : Nat} (ok : TriOk t (n : Int)) (c : Int) {a : Nat} (ha : a < t.length) (b : Nat) : crd (aroundR t n c) (sideOf t a b) = vind t c (cor a b) + vind t c (cor a (b + 1)) := by
  have hs := sideOf_in ok ha b
  obtain ⟨e, he⟩ : ∃ e : Nat, ((sideOf t a b).natAbs : Int) = (e : Int) + 1 := ⟨(sideOf t a b).natAbs - 1, by omega⟩
  have hen : e < n := by omega
  have hel : e < (aroundR t n c).length := by rw [aroundR_len]; exact hen
  rw [crd_nat he hel]
  have hv : (aroundR t n c)[e] = valE t c ((e : Int) + 1) := by
    have h : (aroundR t n c)[e]? = some (valE t c ((e : Int) + 1)) := by
      unfold aroundR
      rw [List.getElem?_map, List.getElem?_range hen]
      rfl
    rw [List.getElem?_eq_getElem hel] at h
    exact Option.some.inj h
  rw [hv]
  unfold valE
  by_cases p : 0 < sideOf t a b
  · have e1 : (e : Int) + 1 = sideOf t a (b % 3) := by rw [sideOf_mod]; omega
    rw [e1, side_at ok ha (by omega)]
    dsimp only
    rw [Int.toNat_natCast, Int.toNat_natCast, cor_mod, cor_mod1]
  · obtain ⟨o1, o2, o3, o4⟩ := opp_at ok ha b
    have e1 : (e : Int) + 1 = -(sideOf t a b) := by omega
    rw [e1, o4]
    dsimp only
    rw [Int.toNat_natCast, Int.toNat_natCast]
    have hm : ∀ p, p ∈ vp t a (b % 3) → SameV t p.1 p.2 := by
      intro p hp
      obtain ⟨q1, q2, _, _⟩ := opp_at ok ha (b % 3)
      have hm : p ∈ allG (vp t) t.length 0 := (mem_allG _ _).2 ⟨a, by omega, by omega, b % 3, by omega, hp⟩
      have hp' : p = (cor a (b % 3), cor (opp t a (b % 3)).1 ((opp t a (b % 3)).2 + 1)) ∨ p = (cor a (b % 3 + 1), cor (opp t a (b % 3)).1 (opp t a (b % 3)).2) := by simpa [vp] using hp
      rcases hp' with e | e
      · subst e
        exact .pair hm (cor_bd ha _).1 (cor_bd ha _).2 (cor_bd q1 _).1 (cor_bd q1 _).2
      · subst e
        exact .pair hm (cor_bd ha _).1 (cor_bd ha _).2 (cor_bd q1 _).1 (cor_bd q1 _).2
    have eo : opp t a (b % 3) = opp t a b := by unfold opp; rw [sideOf_mod]
    have m1 := hm _ (show (cor a (b % 3), cor (opp t a (b % 3)).1 ((opp t a (b % 3)).2 + 1)) ∈ vp t a (b % 3) from by simp [vp])
    have m2 := hm _ (show (cor a (b % 3 + 1), cor (opp t a (b % 3)).1 (opp t a (b % 3)).2) ∈ vp t a (b % 3) from by simp [vp])
    dsimp only at m1 m2
    rw [eo, cor_mod] at m1
    rw [eo, cor_mod1] at m2
    rw [← vind_same m1, ← vind_same m2]
    omega
/-- All corners at the vertex of c have arcs. -/
def fineB (t : List (List Int)) (x : List Int) (c : Int) (m j : Nat) : Prop := SameV t (cor m (j + 1)) c → 2 ≤ tw t x m j
def fineP (t : List (List Int)) (x : List Int) (c : Int) : Prop := ∀ m, m < t.length → ∀ j, j < 3 → fineB t x c m j
structure Inv (t : List (List Int)) (n : Nat) (x : List Int) : Prop where
  len : x.length = n
  cs : x.all co = true
  ge : ∀ i, i < t.length → ∀ j, j < 3 → 0 ≤ tw t x i j
theorem tw_mod (t : List (List Int)) (x : List Int) (i j : Nat) : tw t x i (j % 3) = tw t x i j := by
  unfold tw
  rw [sideOf_mod, ← sideOf_mod t i (j % 3 + 1), ← sideOf_mod t i (j % 3 + 2), ← sideOf_mod t i (j + 1), ← sideOf_mod t i (j + 2), show (j % 3 + 1) % 3 = (j + 1) % 3 by omega, show (j % 3 + 2) % 3 = (j + 2) % 3 by omega]
theorem Inv.step {t : List (List Int)} {n : Nat} (ok : TriOk t (n : Int)) {x : List Int} (h : Inv t n x) {k0 i0 : Nat} (hk : k0 < t.length) (hi : i0 < 3) (hf : fineP t x (cor k0 (i0 + 1))) :
    Inv t n (subL x (aroundR t n (cor k0 (i0 + 1)))) ∧ sumP (subL x (aroundR t n (cor k0 (i0 + 1)))) < sumP x := by
  have hl : x.length = (aroundR t n (cor k0 (i0 + 1))).length := by rw [aroundR_len, h.len]
  have hsl := subL_len x _ hl
  have n9 := ok.n9
  have hcr : ∀ a b, a < t.length → crd (subL x (aroundR t n (cor k0 (i0 + 1)))) (sideOf t a b) = crd x (sideOf t a b) - (vind t (cor k0 (i0 + 1)) (cor a b) + vind t (cor k0 (i0 + 1)) (cor a (b + 1))) := by
    intro a b ha
    have hs := sideOf_in ok ha b
    obtain ⟨e, he⟩ : ∃ e : Nat, ((sideOf t a b).natAbs : Int) = (e : Int) + 1 := ⟨(sideOf t a b).natAbs - 1, by omega⟩
    have hxl := h.len
    have h1 : e < x.length := by omega
    have h2 : e < (aroundR t n (cor k0 (i0 + 1))).length := by rw [← hl]; exact h1
    have h3 : e < (subL x (aroundR t n (cor k0 (i0 + 1)))).length := by rw [hsl]; exact h1
    rw [← around_side ok _ ha b, crd_nat he h1, crd_nat he h2, crd_nat he h3]
    exact subL_at x _ e hl h1 h2 h3
  have c3 : ∀ a b, cor a (b + 3) = cor a b := fun a b => by unfold cor; rw [Nat.add_mod_right]
  have htw : ∀ a b, a < t.length → tw t (subL x (aroundR t n (cor k0 (i0 + 1)))) a b = tw t x a b - 2 * vind t (cor k0 (i0 + 1)) (cor a (b + 1)) := by
    intro a b ha
    unfold tw
    rw [hcr a b ha, hcr a (b + 1) ha, hcr a (b + 2) ha, show b + 2 + 1 = b + 3 from rfl, show b + 1 + 1 = b + 2 from rfl, c3]
    omega
  have hnn : ∀ a b, a < t.length → b < 3 → 0 ≤ tw t (subL x (aroundR t n (cor k0 (i0 + 1)))) a b := by
    intro a b ha hb
    rw [htw a b ha]
    have := h.ge a ha b hb
    have vb := vind_bd t (cor k0 (i0 + 1)) (cor a (b + 1))
    by_cases p : SameV t (cor a (b + 1)) (cor k0 (i0 + 1))
    · have := hf a ha b hb p
      omega
    · have : vind t (cor k0 (i0 + 1)) (cor a (b + 1)) = 0 := by unfold vind; rw [if_neg p]
      omega
  have hpos : ∀ a ∈ subL x (aroundR t n (cor k0 (i0 + 1))), 0 ≤ a ∧ a ≤ 200 := by
    intro v hv
    obtain ⟨e, he, rfl⟩ := List.mem_iff_getElem.1 hv
    have hxl := h.len
    rw [hsl] at he
    obtain ⟨o, a, ho, ha, s1, s2⟩ := ok.side (x := (e : Int) + 1) (by omega) (by omega) (by omega)
    have h1 := hnn o a ho ha
    have h2 := hnn o ((a + 2) % 3) ho (by omega)
    rw [tw_mod] at h2
    have hc0 : crd (subL x (aroundR t n (cor k0 (i0 + 1)))) (sideOf t o a) = (subL x (aroundR t n (cor k0 (i0 + 1))))[e] := crd_nat (by rw [s2]; omega) (by rw [hsl]; exact he)
    have s3 : sideOf t o (a + 3) = sideOf t o a := by unfold sideOf; rw [Nat.add_mod_right]
    have s4 : sideOf t o (a + 4) = sideOf t o (a + 1) := by rw [← sideOf_mod, ← sideOf_mod t o (a + 1), show (a + 4) % 3 = (a + 1) % 3 by omega]
    unfold tw at h1 h2
    rw [show a + 2 + 1 = a + 3 from rfl, show a + 2 + 2 = a + 4 from rfl, s3, s4] at h2
    have h5 : e < (aroundR t n (cor k0 (i0 + 1))).length := by rw [← hl]; exact he
    have h6 := subL_at x _ e hl he h5 (by rw [hsl]; exact he)
    have h7 := co_at h.cs (List.getElem_mem he)
    have h8 : 0 ≤ (aroundR t n (cor k0 (i0 + 1)))[e] := by
      have q := around_side ok (cor k0 (i0 + 1)) ho a
      rw [crd_nat (e := e) (by rw [s2]; omega) h5] at q
      have := vind_bd t (cor k0 (i0 + 1)) (cor o a)
      have := vind_bd t (cor k0 (i0 + 1)) (cor o (a + 1))
      omega
    omega
  refine ⟨⟨by rw [hsl]; exact h.len, List.all_eq_true.2 (fun a ha => decide_eq_true (hpos a ha)), fun a ha b hb => hnn a b ha hb⟩, ?_⟩
  rw [sumP_sub x _ hl]
  have h1 : 1 ≤ sumP (aroundR t n (cor k0 (i0 + 1))) := by
    refine sumP_pos _ (fun v hv => ?_) ?_
    · unfold aroundR at hv
      obtain ⟨q, _, rfl⟩ := List.mem_map.1 hv
      exact (valE_bd t _ _).1
    · have hs := sideOf_in ok hk i0
      obtain ⟨e, he⟩ : ∃ e : Nat, ((sideOf t k0 i0).natAbs : Int) = (e : Int) + 1 := ⟨(sideOf t k0 i0).natAbs - 1, by omega⟩
      have hel : e < (aroundR t n (cor k0 (i0 + 1))).length := by rw [aroundR_len]; omega
      have q := around_side ok (cor k0 (i0 + 1)) hk i0
      rw [crd_nat he hel] at q
      have v0 := vind_bd t (cor k0 (i0 + 1)) (cor k0 i0)
      have v1 : vind t (cor k0 (i0 + 1)) (cor k0 (i0 + 1)) = 1 := by
        unfold vind
        rw [if_pos (.refl (cor_bd hk (i0 + 1)).1 (cor_bd hk (i0 + 1)).2)]
      exact ⟨_, List.getElem_mem hel, by omega⟩
  omega
end Go.Proofs.Ytjmgbaphlhimhaa.L

namespace Go.Proofs.Ytjmgbaphlhimhaa.L
open Go.RowKit Go.Proofs.Ytjmgbaphlhimhaa.P Go.Proofs.Ytjmgbaphlhimhaa.Help Go.Proofs.YtjmgbaphlhimhaaW.PrintWords
set_option linter.unusedVariables false
set_option linter.unusedSimpArgs false

theorem copyOf_f (r : List Int) (h : r.length ≤ 1048576) : impl_copyOf.f r = some r := by
  unfold impl_copyOf.f
  rw [Option.bind_some, if_pos (by simp; omega), List.nil_append]
end Go.Proofs.Ytjmgbaphlhimhaa.L

namespace Go.Proofs.Ytjmgbaphlhimhaa.L
open Go.RowKit Go.Proofs.Ytjmgbaphlhimhaa.P Go.Proofs.Ytjmgbaphlhimhaa.Help Go.Proofs.YtjmgbaphlhimhaaW.PrintWords
set_option linter.unusedVariables false
set_option linter.unusedSimpArgs false

theorem arcs_any {t : List (List Int)} {n : Nat} (ok : TriOk t (n : Int)) {x : List Int} (h : Inv t n x) {i : Nat} (hi : i < t.length) (j : Nat) (hj : j < 3) : impl_arcs.f t x (i : Int) (j : Int) = some (tw t x i j / 2) := by
  have hx : (x.length : Int) = (n : Int) := by have := h.len; omega
  have hb := h.ge i hi j hj
  have A := crd_bd h.cs (sideOf t i j)
  have B := crd_bd h.cs (sideOf t i (j + 1))
  have C := crd_bd h.cs (sideOf t i (j + 2))
  have e1 := arcsAt_eq ok hx hi j (by omega)
  have e2 := arcsAt_eq ok hx hi (j + 1) (by omega)
  have e3 := arcsAt_eq ok hx hi (j + 2) (by omega)
  unfold impl_arcs.f
  rw [e1, Option.bind_some, show wrap64 ((j : Int) + 1) = ((j + 1 : Nat) : Int) from w_n (by omega) (by omega), e2, Option.bind_some, show wrap64 ((j : Int) + 2) = ((j + 2 : Nat) : Int) from w_n (by omega) (by omega), e3, Option.bind_some]
  unfold tw at hb ⊢
  rw [w_id (a := crd x (sideOf t i j) + crd x (sideOf t i (j + 1))) (by omega) (by omega), w_id (a := crd x (sideOf t i j) + crd x (sideOf t i (j + 1)) - crd x (sideOf t i (j + 2))) (by omega) (by omega), Int.tdiv_eq_ediv_of_nonneg (by omega), w_id (by omega) (by omega)]
section
open Classical
theorem isAr_l1 {t : List (List Int)} {n : Nat} (ok : TriOk t (n : Int)) {up : List Int} (S : UF.Stands up (3 * (t.length : Int)) (allG (vp t) t.length 0)) {x : List Int} (h : Inv t n x) {c : Int} (hc : 0 ≤ c ∧ c < 3 * (t.length : Int)) {i : Nat} (hi : i < t.length) : ∀ (d j k : Nat), j + d = 3 → 100 + d < k →
    impl_isAround.l1 k t x up c (i : Int) (j : Int) = if (∀ q, j ≤ q → q < 3 → fineB t x c i q) then impl_isAround.l0 (k - d - 1) t x up c ((i + 1 : Nat) : Int) else some false := by
  have hs := ok.short
  have hlen := S.len
  intro d
  induction d with
  | zero =>
    intro j k hj hk
    obtain ⟨k, rfl⟩ : ∃ m, k = m + 1 := ⟨k - 1, by omega⟩
    simp only [impl_isAround.l1]
    rw [if_neg (by omega), w_n (m := i + 1) (by omega) (by omega), if_pos (fun q h1 h2 => absurd h1 (by omega))]
    rfl
  | succ d ih =>
    intro j k hj hk
    obtain ⟨k, rfl⟩ : ∃ m, k = m + 1 := ⟨k - 1, by omega⟩
    have ihh := ih (j + 1) k (by omega) (by omega)
    have hk' : k + 1 - (d + 1) - 1 = k - d - 1 := by omega
    have x1 : (j : Int) < 3 := by omega
    have x3 : j < 3 := by omega
    have cb2 := cor_bd hi (j + 1)
    have f2 := top_f S.ok cb2.1 (m := k) (by omega) (by omega)
    have f3 := top_f S.ok hc.1 (m := k) (by omega) (by omega)
    have ar := arcs_any ok h hi j x3
    have sm := S.same_iff cb2 hc
    have split : (∀ q, j ≤ q → q < 3 → fineB t x c i q) ↔ fineB t x c i j ∧ ∀ q, j + 1 ≤ q → q < 3 → fineB t x c i q := by
      constructor
      · exact fun h => ⟨h j (Nat.le_refl _) x3, fun q h1 h2 => h q (by omega) h2⟩
      · rintro ⟨h1, h2⟩ q h3 h4
        by_cases e : q = j
        · subst e; exact h1
        · exact h2 q (by omega) h4
    have hb := h.ge i hi j x3
    simp only [impl_isAround.l1]
    rw [if_pos x1, show wrap64 (3 * (i : Int)) = ((3 * i : Nat) : Int) from w_n (by omega) (by omega), show wrap64 ((j : Int) + 1) = ((j + 1 : Nat) : Int) from w_n (by omega) (by omega), tmod3,
      show wrap64 (((3 * i : Nat) : Int) + ((((j + 1) % 3 : Nat)) : Int)) = cor i (j + 1) from by rw [w_n (m := 3 * i + (j + 1) % 3) (by omega) (by omega)]; unfold cor; omega, f2, Option.bind_some, f3, Option.bind_some, hk']
    by_cases p : SameV t (cor i (j + 1)) c
    · rw [if_pos (sm.2 p), ar, Option.bind_some]
      by_cases b : tw t x i j / 2 < 1
      · rw [if_pos b, if_neg (fun hq => by have := (split.1 hq).1 p; omega)]
      · rw [if_neg b, ihh]
        have hf : fineB t x c i j := fun _ => by omega
        by_cases r : ∀ q, j + 1 ≤ q → q < 3 → fineB t x c i q
        · rw [if_pos r, if_pos (split.2 ⟨hf, r⟩)]
        · rw [if_neg r, if_neg (fun hq => r (split.1 hq).2)]
    · rw [if_neg (fun e => p (sm.1 e)), ihh]
      have hf : fineB t x c i j := fun e => absurd e p
      by_cases r : ∀ q, j + 1 ≤ q → q < 3 → fineB t x c i q
      · rw [if_pos r, if_pos (split.2 ⟨hf, r⟩)]
      · rw [if_neg r, if_neg (fun hq => r (split.1 hq).2)]
theorem isAr_l0 {t : List (List Int)} {n : Nat} (ok : TriOk t (n : Int)) {up : List Int} (S : UF.Stands up (3 * (t.length : Int)) (allG (vp t) t.length 0)) {x : List Int} (h : Inv t n x) {c : Int} (hc : 0 ≤ c ∧ c < 3 * (t.length : Int)) : ∀ (d i k : Nat), i + d = t.length → 200 + 5 * d < k →
    impl_isAround.l0 k t x up c (i : Int) = some (decide (∀ m, i ≤ m → m < t.length → ∀ j, j < 3 → fineB t x c m j)) := by
  intro d
  induction d with
  | zero =>
    intro i k hi hk
    obtain ⟨k, rfl⟩ : ∃ m, k = m + 1 := ⟨k - 1, by omega⟩
    simp only [impl_isAround.l0]
    rw [if_neg (by omega), decide_eq_true (fun m h1 h2 => absurd h1 (by omega))]
  | succ d ih =>
    intro i k hi hk
    obtain ⟨k, rfl⟩ : ∃ m, k = m + 1 := ⟨k - 1, by omega⟩
    have hi' : i < t.length := by omega
    have e1 := isAr_l1 ok S h hc hi' 3 0 k (by omega) (by omega)
    have e2 := ih (i + 1) (k - 3 - 1) (by omega) (by omega)
    have e1' : impl_isAround.l1 k t x up c (i : Int) 0 = if (∀ q, 0 ≤ q → q < 3 → fineB t x c i q) then impl_isAround.l0 (k - 3 - 1) t x up c ((i + 1 : Nat) : Int) else some false := e1
    simp only [impl_isAround.l0]
    rw [if_pos (by omega), e1', e2]
    by_cases r : ∀ q, 0 ≤ q → q < 3 → fineB t x c i q
    · rw [if_pos r]
      congr 1
      apply decide_eq_decide.2
      constructor
      · intro hh m h1 h2 j hj
        by_cases e : m = i
        · subst e; exact r j (Nat.zero_le _) hj
        · exact hh m (by omega) h2 j hj
      · exact fun hh m h1 h2 => hh m (by omega) h2
    · rw [if_neg r, decide_eq_false (fun hh => r (fun q _ hq => hh i (Nat.le_refl _) hi' q hq))]
theorem isAr_f {t : List (List Int)} {n : Nat} (ok : TriOk t (n : Int)) {up : List Int} (S : UF.Stands up (3 * (t.length : Int)) (allG (vp t) t.length 0)) {x : List Int} (h : Inv t n x) {c : Int} (hc : 0 ≤ c ∧ c < 3 * (t.length : Int)) (k : Nat) (hk : 1000 < k) : impl_isAround.l0 k t x up c 0 = some (decide (fineP t x c)) := by
  have hs := ok.short
  have := isAr_l0 ok S h hc t.length 0 k (by omega) (by omega)
  refine Eq.trans this ?_
  congr 1
  exact decide_eq_decide.2 ⟨fun hh m h2 => hh m (Nat.zero_le _) h2, fun hh m _ h2 => hh m h2⟩
/-- The corner behind the c-th side. -/
def cr (c : Nat) : Int := cor (c / 3) (c % 3 + 1)
noncomputable def firstF (t : List (List Int)) (x : List Int) : Nat → Nat → Option Nat
  | 0, _ => none
  | d + 1, c => if fineP t x (cr c) then some c else firstF t x d (c + 1)
theorem firstF_some {t : List (List Int)} {x : List Int} : ∀ (d c r : Nat), firstF t x d c = some r → c ≤ r ∧ r < c + d ∧ fineP t x (cr r)
  | 0, c, r, h => by simp [firstF] at h
  | d + 1, c, r, h => by
    rw [firstF] at h
    by_cases p : fineP t x (cr c)
    · rw [if_pos p] at h
      obtain rfl := Option.some.inj h
      exact ⟨Nat.le_refl _, by omega, p⟩
    · rw [if_neg p] at h
      have := firstF_some d (c + 1) r h
      exact ⟨by omega, by omega, this.2.2⟩
theorem loose_l3 {t : List (List Int)} {n : Nat} (ok : TriOk t (n : Int)) {u2 : List Int} (S : UF.Stands u2 (3 * (t.length : Int) + 2) (allG (ep t) t.length 0)) {x : List Int} (h : Inv t n x) {a b : Nat} (ha : a < t.length) (hb : b < 3) {m : Nat} (hm : m < t.length) : ∀ (d j k : Nat) (fl : Bool), j + d = 3 → 100 + d < k →
    spec_l15Loose.l3 k t x u2 (a : Int) (b : Int) (UF.rt u2 (En (sideOf t a b))) fl (m : Int) (j : Int) = spec_l15Loose.l2 (k - d - 1) t x u2 (a : Int) (b : Int) (UF.rt u2 (En (sideOf t a b))) (fl && decide (∀ q, j ≤ q → q < 3 → fineB t x (cor a (b + 1)) m q)) ((m + 1 : Nat) : Int) := by
  have hs := ok.short
  have hn := S.len
  have n9 := ok.n9
  have h3 := ok.three hm
  have hl : ((rd_L1 t (m : Int)).length : Int) = 3 := by rw [rdL_nat t m hm, h3]; rfl
  have hx : (x.length : Int) = (n : Int) := by have := h.len; omega
  have epm : ∀ a b : Nat, a < t.length → b < 3 → UF.Cls (3 * (t.length : Int) + 2) (allG (ep t) t.length 0) (En (sideOf t a b)) (fm t (cor a (b + 1))) := by
    intro a b ha hb
    rw [fm_cor]
    exact .pair ((mem_allG _ _).2 ⟨a, by omega, by omega, b, hb, by simp [ep]⟩) (En_bd ok ha b).1 (En_bd ok ha b).2 (Bg_bd ok ha (b + 1)).1 (Bg_bd ok ha (b + 1)).2
  intro d
  induction d with
  | zero =>
    intro j k fl hj hk
    obtain ⟨k, rfl⟩ : ∃ m, k = m + 1 := ⟨k - 1, by omega⟩
    simp only [spec_l15Loose.l3]
    rw [if_neg (by omega), w_n (m := m + 1) (by omega) (by omega), decide_eq_true (fun q h1 h2 => absurd h1 (by omega)), Bool.and_true]
    rfl
  | succ d ih =>
    intro j k fl hj hk
    obtain ⟨k, rfl⟩ : ∃ m, k = m + 1 := ⟨k - 1, by omega⟩
    have ih1 := ih (j + 1) k fl (by omega) (by omega)
    have ih2 := ih (j + 1) k false (by omega) (by omega)
    have hk' : k + 1 - (d + 1) - 1 = k - d - 1 := by omega
    have x1 : (j : Int) < 3 := by omega
    have x2 : (0 : Int) ≤ (m : Int) := by omega
    have x3 : (m : Int) < (t.length : Int) := by omega
    have x4 : (0 : Int) ≤ (j : Int) := by omega
    have x5 : j < 3 := by omega
    have hs1 := sideOf_in ok hm j
    have bE := En_bd ok hm j
    have bv := En_bd ok ha b
    have f1 := find3_f S.ok bE.1 (m := k) (by omega) (by omega)
    have y1 := l3Abs_eq (a := sideOf t m j) (by omega) (by omega)
    have sm : UF.rt u2 (En (sideOf t m j)) = UF.rt u2 (En (sideOf t a b)) ↔ SameV t (cor m (j + 1)) (cor a (b + 1)) := by
      rw [S.same_iff bE bv]
      unfold SameV
      rw [cls_fm ok (cor_bd hm (j + 1)) (cor_bd ha (b + 1))]
      exact ⟨fun h => (epm m j hm x5).symm.trans (h.trans (epm a b ha hb)), fun h => (epm m j hm x5).trans (h.trans (epm a b ha hb).symm)⟩
    have tq := twice_tw ok hx h.cs hm j x5
    have split : (∀ q, j ≤ q → q < 3 → fineB t x (cor a (b + 1)) m q) ↔ fineB t x (cor a (b + 1)) m j ∧ ∀ q, j + 1 ≤ q → q < 3 → fineB t x (cor a (b + 1)) m q := by
      constructor
      · exact fun h => ⟨h j (Nat.le_refl _) x5, fun q h1 h2 => h q (by omega) h2⟩
      · rintro ⟨h1, h2⟩ q h3 h4
        by_cases e : q = j
        · subst e; exact h1
        · exact h2 q (by omega) h4
    have w1 : wrap64 ((j : Int) + 1) = ((j + 1 : Nat) : Int) := w_n (by omega) (by omega)
    have v1 : wrap64 (wrap64 (2 * ((sideOf t m j).natAbs : Int)) + (if decide (sideOf t m j > 0) = true then 1 else 0)) = En (sideOf t m j) := by
      clear w1
      rw [w_id (a := 2 * ((sideOf t m j).natAbs : Int)) (by omega) (by omega)]
      unfold En
      by_cases c : sideOf t m j > 0
      · rw [if_pos (decide_eq_true c), if_pos c, w_id (by omega) (by omega)]
      · rw [if_neg (by simpa using c), if_neg c, w_id (by omega) (by omega)]
    simp only [spec_l15Loose.l3]
    rw [if_pos x1, if_pos x2, if_pos x3, if_pos x4, hl, if_pos x1, rd_at ok hm x5, y1, Option.bind_some, bit_eq, Option.bind_some, v1, f1, Option.bind_some, w1, hk']
    by_cases p : SameV t (cor m (j + 1)) (cor a (b + 1))
    · rw [if_pos (sm.2 p), tq, Option.bind_some]
      by_cases b2 : tw t x m j < 2
      · rw [if_pos b2, ih2, Bool.false_and, decide_eq_false (fun hq => by have := (split.1 hq).1 p; omega), Bool.and_false]
      · rw [if_neg b2, ih1]
        have hf : fineB t x (cor a (b + 1)) m j := fun _ => by omega
        congr 2
        exact decide_eq_decide.2 ⟨fun r => split.2 ⟨hf, r⟩, fun r => (split.1 r).2⟩
    · rw [if_neg (fun e => p (sm.1 e)), ih1]
      have hf : fineB t x (cor a (b + 1)) m j := fun e => absurd e p
      congr 2
      exact decide_eq_decide.2 ⟨fun r => split.2 ⟨hf, r⟩, fun r => (split.1 r).2⟩
theorem loose_l2 {t : List (List Int)} {n : Nat} (ok : TriOk t (n : Int)) {u2 : List Int} (S : UF.Stands u2 (3 * (t.length : Int) + 2) (allG (ep t) t.length 0)) {x : List Int} (h : Inv t n x) {a b : Nat} (ha : a < t.length) (hb : b < 3) : ∀ (d m k : Nat) (fl : Bool), m + d = t.length → 200 + 5 * d < k →
    spec_l15Loose.l2 k t x u2 (a : Int) (b : Int) (UF.rt u2 (En (sideOf t a b))) fl (m : Int) = if (fl && decide (∀ q, m ≤ q → q < t.length → ∀ j, j < 3 → fineB t x (cor a (b + 1)) q j)) = true then some ((a : Int), (b : Int)) else spec_l15Loose.l1 (k - 5 * d - 1) t x u2 (a : Int) ((b + 1 : Nat) : Int) := by
  intro d
  induction d with
  | zero =>
    intro m k fl hm hk
    obtain ⟨k, rfl⟩ : ∃ m, k = m + 1 := ⟨k - 1, by omega⟩
    simp only [spec_l15Loose.l2]
    rw [if_neg (by omega), decide_eq_true (fun q h1 h2 => absurd h1 (by omega)), Bool.and_true, w_n (m := b + 1) (by omega) (by omega)]
    rfl
  | succ d ih =>
    intro m k fl hm hk
    obtain ⟨k, rfl⟩ : ∃ m, k = m + 1 := ⟨k - 1, by omega⟩
    have hm' : m < t.length := by omega
    have e1 := loose_l3 ok S h ha hb hm' 3 0 k fl (by omega) (by omega)
    have e2 := ih (m + 1) (k - 3 - 1) (fl && decide (∀ q, 0 ≤ q → q < 3 → fineB t x (cor a (b + 1)) m q)) (by omega) (by omega)
    have hk' : k - 3 - 1 - 5 * d - 1 = k + 1 - 5 * (d + 1) - 1 := by omega
    have e1' : spec_l15Loose.l3 k t x u2 (a : Int) (b : Int) (UF.rt u2 (En (sideOf t a b))) fl (m : Int) 0 = _ := e1
    simp only [spec_l15Loose.l2]
    rw [if_pos (by omega), e1', e2, hk', Bool.and_assoc]
    have he : (decide (∀ q, 0 ≤ q → q < 3 → fineB t x (cor a (b + 1)) m q) && decide (∀ q, m + 1 ≤ q → q < t.length → ∀ j, j < 3 → fineB t x (cor a (b + 1)) q j)) = decide (∀ q, m ≤ q → q < t.length → ∀ j, j < 3 → fineB t x (cor a (b + 1)) q j) := by
      rw [← Bool.decide_and]
      apply decide_eq_decide.2
      constructor
      · rintro ⟨h1, h2⟩ q h3 h4 j hj
        by_cases e : q = m
        · subst e; exact h1 j (Nat.zero_le _) hj
        · exact h2 q (by omega) h4 j hj
      · exact fun hh => ⟨fun q _ hq => hh m (Nat.le_refl _) hm' q hq, fun q h1 h2 => hh q (by omega) h2⟩
    rw [he]
def lres : Option Nat → Int × Int
  | none => (-1, -1)
  | some c => (((c / 3 : Nat) : Int), ((c % 3 : Nat) : Int))
theorem loose_l1 {t : List (List Int)} {n : Nat} (ok : TriOk t (n : Int)) {u2 : List Int} (S : UF.Stands u2 (3 * (t.length : Int) + 2) (allG (ep t) t.length 0)) {x : List Int} (h : Inv t n x) : ∀ (d c k : Nat), c + d = 3 * t.length → 0 < d → 1000 + 50 * d < k →
    spec_l15Loose.l1 k t x u2 ((c / 3 : Nat) : Int) ((c % 3 : Nat) : Int) = some (lres (firstF t x d c)) := by
  have hs := ok.short
  have hn := S.len
  have n9 := ok.n9
  intro d
  induction d with
  | zero => intro c k _ h0; exact absurd h0 (by omega)
  | succ d ih =>
    intro c k hc _ hk
    obtain ⟨k, rfl⟩ : ∃ m, k = m + 1 := ⟨k - 1, by omega⟩
    have ha : c / 3 < t.length := by omega
    have hb : c % 3 < 3 := by omega
    have h3 := ok.three ha
    have hl : ((rd_L1 t ((c / 3 : Nat) : Int)).length : Int) = 3 := by rw [rdL_nat t _ ha, h3]; rfl
    have hs1 := sideOf_in ok ha (c % 3)
    have bE := En_bd ok ha (c % 3)
    have f1 := find3_f S.ok bE.1 (m := k) (by omega) (by omega)
    have y1 := l3Abs_eq (a := sideOf t (c / 3) (c % 3)) (by omega) (by omega)
    have x1 : ((c % 3 : Nat) : Int) < 3 := by omega
    have x2 : (0 : Int) ≤ ((c / 3 : Nat) : Int) := by omega
    have x3 : ((c / 3 : Nat) : Int) < (t.length : Int) := by omega
    have x4 : (0 : Int) ≤ ((c % 3 : Nat) : Int) := by omega
    have v1 : wrap64 (wrap64 (2 * ((sideOf t (c / 3) (c % 3)).natAbs : Int)) + (if decide (sideOf t (c / 3) (c % 3) > 0) = true then 1 else 0)) = En (sideOf t (c / 3) (c % 3)) := by
      rw [w_id (a := 2 * ((sideOf t (c / 3) (c % 3)).natAbs : Int)) (by omega) (by omega)]
      unfold En
      by_cases c' : sideOf t (c / 3) (c % 3) > 0
      · rw [if_pos (decide_eq_true c'), if_pos c', w_id (by omega) (by omega)]
      · rw [if_neg (by simpa using c'), if_neg c', w_id (by omega) (by omega)]
    have e2 := loose_l2 ok S h ha hb t.length 0 k true (by omega) (by omega)
    have e2' : spec_l15Loose.l2 k t x u2 ((c / 3 : Nat) : Int) ((c % 3 : Nat) : Int) (UF.rt u2 (En (sideOf t (c / 3) (c % 3)))) true 0 = _ := e2
    have nxt : ¬ fineP t x (cr c) → spec_l15Loose.l1 (k - 5 * t.length - 1) t x u2 ((c / 3 : Nat) : Int) ((c % 3 + 1 : Nat) : Int) = some (lres (firstF t x d (c + 1))) := by
      intro _
      by_cases r : c % 3 + 1 < 3
      · have e3 := ih (c + 1) (k - 5 * t.length - 1) (by omega) (by omega) (by omega)
        rw [show (c + 1) / 3 = c / 3 by omega, show (c + 1) % 3 = c % 3 + 1 by omega] at e3
        exact e3
      · obtain ⟨k2, hk2⟩ : ∃ m, k - 5 * t.length - 1 = m + 2 := ⟨k - 5 * t.length - 3, by omega⟩
        rw [hk2, show k2 + 2 = (k2 + 1) + 1 from rfl]
        conv => lhs; unfold spec_l15Loose.l1
        rw [if_neg (by omega), show wrap64 (((c / 3 : Nat) : Int) + 1) = ((c / 3 + 1 : Nat) : Int) from w_n (by omega) (by omega)]
        conv => lhs; unfold spec_l15Loose.l0
        by_cases z : d = 0
        · subst z
          rw [if_neg (by omega)]
          rfl
        · rw [if_pos (by omega)]
          have e3 := ih (c + 1) k2 (by omega) (by omega) (by omega)
          rw [show (c + 1) / 3 = c / 3 + 1 by omega, show (c + 1) % 3 = 0 by omega] at e3
          exact e3
    conv => lhs; unfold spec_l15Loose.l1
    rw [if_pos x1, if_pos x2, if_pos x3, if_pos x4, hl, if_pos x1, rd_at ok ha hb, y1, Option.bind_some, bit_eq, Option.bind_some, v1, f1, Option.bind_some, e2', Bool.true_and, firstF]
    by_cases p : fineP t x (cr c)
    · have hh : ∀ (q : Nat), 0 ≤ q → q < t.length → ∀ (j : Nat), j < 3 → fineB t x (cor (c / 3) (c % 3 + 1)) q j := fun q _ hq => p q hq
      rw [if_pos (decide_eq_true hh), if_pos p]
      rfl
    · have hh : ¬ (∀ (q : Nat), 0 ≤ q → q < t.length → ∀ (j : Nat), j < 3 → fineB t x (cor (c / 3) (c % 3 + 1)) q j) := fun hh => p (fun q hq => hh q (Nat.zero_le _) hq)
      rw [if_neg (by rw [decide_eq_true_iff]; exact hh), if_neg p]
      exact nxt p
theorem loose_f {t : List (List Int)} {n : Nat} (ok : TriOk t (n : Int)) {x : List Int} (h : Inv t n x) (k : Nat) (hk : 3000 < k) : spec_l15Loose.f k t x = some (lres (firstF t x (3 * t.length) 0)) := by
  obtain ⟨u2, e, S⟩ := ends_f ok k (by omega)
  have hs := ok.short
  obtain ⟨k, rfl⟩ : ∃ m, k = m + 1 := ⟨k - 1, by omega⟩
  unfold spec_l15Loose.f
  rw [e, Option.bind_some]
  conv => lhs; unfold spec_l15Loose.l0
  rw [if_pos (by omega)]
  exact loose_l1 ok S h (3 * t.length) 0 k (by omega) (by omega) (by omega)
end
end Go.Proofs.Ytjmgbaphlhimhaa.L

namespace Go.Proofs.Ytjmgbaphlhimhaa.L
open Go.RowKit Go.Proofs.Ytjmgbaphlhimhaa.P Go.Proofs.Ytjmgbaphlhimhaa.Help Go.Proofs.YtjmgbaphlhimhaaW.PrintWords
set_option linter.unusedVariables false
set_option linter.unusedSimpArgs false

def mixL (x y : List Int) (e : Nat) : List Int := (subL x y).take e ++ x.drop e
theorem mixL_len {x y : List Int} (h : x.length = y.length) {e : Nat} (he : e ≤ x.length) : (mixL x y e).length = x.length := by
  unfold mixL
  rw [List.length_append, List.length_take, List.length_drop, subL_len x y h]
  omega
theorem mixL_at {x y : List Int} (h : x.length = y.length) {e : Nat} (he : e < x.length) (h2 : e < (mixL x y e).length) : (mixL x y e)[e] = x[e] := by
  have hl : ((subL x y).take e).length = e := by rw [List.length_take, subL_len x y h]; omega
  have q : (mixL x y e)[e]? = x[e]? := by
    unfold mixL
    rw [List.getElem?_append_right (by omega), hl, Nat.sub_self, List.getElem?_drop, Nat.add_zero]
  rw [List.getElem?_eq_getElem h2, List.getElem?_eq_getElem he] at q
  exact Option.some.inj q
theorem mixL_set {x y : List Int} (h : x.length = y.length) {e : Nat} (he : e < x.length) (h2 : e < y.length) : (mixL x y e).set e (x[e] - y[e]) = mixL x y (e + 1) := by
  have hl : ((subL x y).take e).length = e := by rw [List.length_take, subL_len x y h]; omega
  have hs : e < (subL x y).length := by rw [subL_len x y h]; exact he
  unfold mixL
  rw [List.set_append, if_neg (by omega), hl, Nat.sub_self, List.drop_eq_getElem_cons he, List.set_cons_zero, List.take_succ_eq_append_getElem hs, List.append_assoc, subL_at x y e h he h2 hs]
  rfl
theorem mixL_end {x y : List Int} (h : x.length = y.length) : mixL x y x.length = subL x y := by
  unfold mixL
  rw [List.drop_length, List.append_nil, List.take_of_length_le (by rw [subL_len x y h]; exact Nat.le_refl _)]
theorem spec_pl_l1 (t : List (List Int)) (x y : List Int) (h : x.length = y.length) (hx : x.length ≤ 100) (hb : ∀ (i : Nat) (h1 : i < x.length) (h2 : i < y.length), -1000 ≤ x[i] - y[i] ∧ x[i] - y[i] ≤ 1000) : ∀ (d e k : Nat), e + d = x.length → d < k → spec_PlainCurve.l1 k t (mixL x y e) y (e : Int) = spec_PlainCurve.l0 (k - d - 1) t (subL x y) := by
  intro d
  induction d with
  | zero =>
    intro e k he hk
    obtain ⟨k, rfl⟩ : ∃ m, k = m + 1 := ⟨k - 1, by omega⟩
    simp only [spec_PlainCurve.l1]
    rw [mixL_len h (by omega), if_neg (by omega), show e = x.length by omega, mixL_end h]
    rfl
  | succ d ih =>
    intro e k he hk
    obtain ⟨k, rfl⟩ : ∃ m, k = m + 1 := ⟨k - 1, by omega⟩
    have h1 : e < x.length := by omega
    have h2 : e < y.length := by omega
    have h3 : e < (mixL x y e).length := by rw [mixL_len h (by omega)]; exact h1
    have hw := hb e h1 h2
    simp only [spec_PlainCurve.l1]
    rw [mixL_len h (by omega), if_pos (by omega), if_pos (by omega), if_pos (by omega), rd_nat _ e h3, rd_nat y e h2, mixL_at h h1 h3, w_id (a := x[e] - y[e]) (by omega) (by omega), Int.toNat_natCast, mixL_set h h1 h2, show wrap64 ((e : Int) + 1) = ((e + 1 : Nat) : Int) from w_n (by omega) (by omega), ih (e + 1) k (by omega) (by omega), show k + 1 - (d + 1) - 1 = k - d - 1 by omega]
theorem impl_pl_l2 (t : List (List Int)) (up x y : List Int) (c : Nat) (hc : c ≤ 1000) (h : x.length = y.length) (hx : x.length ≤ 100) (hb : ∀ (i : Nat) (h1 : i < x.length) (h2 : i < y.length), -1000 ≤ x[i] - y[i] ∧ x[i] - y[i] ≤ 1000) : ∀ (d e k : Nat), e + d = x.length → d < k → impl_PlainCurve.l2 k t up (mixL x y e) (c : Int) y (e : Int) = impl_PlainCurve.l1 (k - d - 1) t up (subL x y) ((c + 1 : Nat) : Int) true := by
  intro d
  induction d with
  | zero =>
    intro e k he hk
    obtain ⟨k, rfl⟩ : ∃ m, k = m + 1 := ⟨k - 1, by omega⟩
    simp only [impl_PlainCurve.l2]
    rw [if_neg (by omega), show e = x.length by omega, mixL_end h, w_n (m := c + 1) (by omega) (by omega)]
    rfl
  | succ d ih =>
    intro e k he hk
    obtain ⟨k, rfl⟩ : ∃ m, k = m + 1 := ⟨k - 1, by omega⟩
    have h1 : e < x.length := by omega
    have h2 : e < y.length := by omega
    have h3 : e < (mixL x y e).length := by rw [mixL_len h (by omega)]; exact h1
    have hw := hb e h1 h2
    simp only [impl_PlainCurve.l2]
    rw [mixL_len h (by omega), if_pos (by omega), if_pos (by omega), if_pos (by omega), rd_nat _ e h3, rd_nat y e h2, mixL_at h h1 h3, w_id (a := x[e] - y[e]) (by omega) (by omega), Int.toNat_natCast, mixL_set h h1 h2, show wrap64 ((e : Int) + 1) = ((e + 1 : Nat) : Int) from w_n (by omega) (by omega), ih (e + 1) k (by omega) (by omega), show k + 1 - (d + 1) - 1 = k - d - 1 by omega]
theorem cornerOf_cr (c : Nat) (hc : c ≤ 1000) : cornerOf (c : Int) = cr c := by
  unfold cornerOf cr cor
  have e1 : wrap64 (Int.tdiv (c : Int) 3) = ((c / 3 : Nat) : Int) := w_n (by rw [Int.tdiv_eq_ediv_of_nonneg (by omega)]; omega) (by omega)
  have e2 : wrap64 (((c / 3 : Nat) : Int) * 3) = ((c / 3 * 3 : Nat) : Int) := w_n (by omega) (by omega)
  have e3 : wrap64 ((c : Int) + 1) = ((c + 1 : Nat) : Int) := w_n (by omega) (by omega)
  rw [e1, e2, e3, tmod3, tmod3]
  by_cases p : (((c % 3 : Nat)) : Int) = 2
  · rw [if_pos p]
    clear e1 e2 e3
    omega
  · rw [if_neg p, w_n (m := c / 3 * 3 + (c + 1) % 3) (by clear e1 e2 e3; omega) (by clear e1 e2 e3; omega)]
    clear e1 e2 e3
    omega
open Classical in
theorem impl_pl_l1 {t : List (List Int)} {n : Nat} (ok : TriOk t (n : Int)) (ht : t.length ≤ 1048576) (hr : ∀ r ∈ t, r.length ≤ 1048576) {up : List Int} (S : UF.Stands up (3 * (t.length : Int)) (allG (vp t) t.length 0)) {x : List Int} (h : Inv t n x) : ∀ (d c k : Nat), c + d = 3 * t.length → 3000400 + d < k →
    impl_PlainCurve.l1 k t up x (c : Int) false = match firstF t x d c with
      | none => impl_PlainCurve.l0 (k - d - 1) t up x false
      | some r => impl_PlainCurve.l2 (k - (r - c) - 1) t up x (r : Int) (aroundR t n (cr r)) 0 := by
  have hs := ok.short
  have hL : wrap64 (3 * (t.length : Int)) = ((3 * t.length : Nat) : Int) := w_n (by omega) (by omega)
  intro d
  induction d with
  | zero =>
    intro c k hc hk
    obtain ⟨k, rfl⟩ : ∃ m, k = m + 1 := ⟨k - 1, by omega⟩
    have x1 : ¬ ((c : Int) < ((3 * t.length : Nat) : Int)) := by clear hL; omega
    simp only [impl_PlainCurve.l1, firstF]
    rw [hL, if_neg x1]
    rfl
  | succ d ih =>
    intro c k hc hk
    obtain ⟨k, rfl⟩ : ∃ m, k = m + 1 := ⟨k - 1, by omega⟩
    have x1 : (c : Int) < ((3 * t.length : Nat) : Int) := by clear hL; omega
    have ha : c / 3 < t.length := by clear hL; omega
    have hcr : 0 ≤ cr c ∧ cr c < 3 * (t.length : Int) := cor_bd ha (c % 3 + 1)
    have iA := isAr_f ok S h hcr k (by clear hL; omega)
    have aA := impl_around_f ok ht hr hcr k (by clear hL; omega)
    have cO := cornerOf_cr c (by clear hL; omega)
    have ihh := ih (c + 1) k (by clear hL; omega) (by clear hL; omega)
    have hw : wrap64 ((c : Int) + 1) = ((c + 1 : Nat) : Int) := w_n (by clear hL; omega) (by clear hL; omega)
    have y1 : k + 1 - (d + 1) - 1 = k - d - 1 := by clear hL hw; omega
    simp only [impl_PlainCurve.l1]
    rw [hL, if_pos x1, if_neg (by decide), cO, iA, Option.bind_some, firstF]
    by_cases p : fineP t x (cr c)
    · rw [if_pos (decide_eq_true p), aA, Option.bind_some, if_pos p]
      dsimp only
      rw [Nat.sub_self]
      rfl
    · rw [if_neg (by rw [decide_eq_true_iff]; exact p), if_neg p, hw, ihh]
      cases hF : firstF t x d (c + 1) with
      | none =>
        dsimp only
        rw [y1]
      | some r =>
        have := firstF_some d (c + 1) r hF
        have y2 : k - (r - (c + 1)) - 1 = k + 1 - (r - c) - 1 := by clear hL hw; omega
        dsimp only
        rw [y2]
theorem plain_run {t : List (List Int)} {n : Nat} (ok : TriOk t (n : Int)) (ht : t.length ≤ 1048576) (hr : ∀ r ∈ t, r.length ≤ 1048576) {up : List Int} (S : UF.Stands up (3 * (t.length : Int)) (allG (vp t) t.length 0)) : ∀ (s : Nat) (x : List Int), Inv t n x → sumP x ≤ s → ∃ r : List Int, Inv t n r ∧ (∀ k, 3001000 + 100 * s < k → spec_PlainCurve.l0 k t x = some (r, true)) ∧ (∀ k, 3001000 + 100 * s < k → impl_PlainCurve.l0 k t up x true = some (r, true)) := by
  have hs := ok.short
  have n9 := ok.n9
  intro s
  induction s with
  | zero =>
    intro x h h0
    cases hF : firstF t x (3 * t.length) 0 with
    | some r =>
      obtain ⟨f1, f2, f3⟩ := firstF_some _ _ _ hF
      have st := h.step ok (k0 := r / 3) (i0 := r % 3) (by omega) (by omega) f3
      have := sumP_nn _ (fun a ha => (co_at st.1.cs ha).1)
      omega
    | none =>
      refine ⟨x, h, fun k hk => ?_, fun k hk => ?_⟩
      · obtain ⟨k, rfl⟩ : ∃ m, k = m + 1 := ⟨k - 1, by omega⟩
        simp only [spec_PlainCurve.l0]
        rw [loose_f ok h k (by omega), Option.bind_some, hF]
        rfl
      · obtain ⟨k, rfl⟩ : ∃ m, k = m + 1 := ⟨k - 1, by omega⟩
        simp only [impl_PlainCurve.l0]
        have e := impl_pl_l1 ok ht hr S h (3 * t.length) 0 k (by omega) (by omega)
        rw [hF] at e
        have e' : impl_PlainCurve.l1 k t up x 0 false = impl_PlainCurve.l0 (k - 3 * t.length - 1) t up x false := e
        rw [if_pos trivial, e']
        obtain ⟨k2, hk2⟩ : ∃ m, k - 3 * t.length - 1 = m + 1 := ⟨k - 3 * t.length - 2, by omega⟩
        rw [hk2]
        simp only [impl_PlainCurve.l0]
        rfl
  | succ s ih =>
    intro x h h0
    cases hF : firstF t x (3 * t.length) 0 with
    | some r =>
      obtain ⟨f1, f2, f3⟩ := firstF_some _ _ _ hF
      have hra : r / 3 < t.length := by omega
      have st := h.step ok (k0 := r / 3) (i0 := r % 3) hra (by omega) f3
      have hl : x.length = (aroundR t n (cr r)).length := by rw [aroundR_len]; exact h.len
      have hxl := h.len
      have hb : ∀ (i : Nat) (h1 : i < x.length) (h2 : i < (aroundR t n (cr r)).length), -1000 ≤ x[i] - (aroundR t n (cr r))[i] ∧ x[i] - (aroundR t n (cr r))[i] ≤ 1000 := by
        intro i h1 h2
        have a1 := co_at h.cs (List.getElem_mem h1)
        have a2 : 0 ≤ (aroundR t n (cr r))[i] ∧ (aroundR t n (cr r))[i] ≤ 2 := by
          have hm := List.getElem_mem h2
          unfold aroundR at hm
          obtain ⟨q, _, e⟩ := List.mem_map.1 hm
          have := valE_bd t (cr r) ((q : Int) + 1)
          unfold aroundR
          rw [← e]
          exact this
        omega
      obtain ⟨rr, i1, i2, i3⟩ := ih _ st.1 (by omega)
      refine ⟨rr, i1, fun k hk => ?_, fun k hk => ?_⟩
      · obtain ⟨k, rfl⟩ : ∃ m, k = m + 1 := ⟨k - 1, by omega⟩
        simp only [spec_PlainCurve.l0]
        have sa := spec_around_f ok (i := r / 3) (j := r % 3) hra (by omega) k (by omega)
        have e := spec_pl_l1 t x (aroundR t n (cr r)) hl (by omega) hb x.length 0 k (by omega) (by omega)
        have e' : spec_PlainCurve.l1 k t x (aroundR t n (cr r)) 0 = spec_PlainCurve.l0 (k - x.length - 1) t (subL x (aroundR t n (cr r))) := e
        have nn : ¬ ((lres (some r)).1 < 0) := by
          show ¬ (((r / 3 : Nat) : Int) < 0)
          omega
        rw [loose_f ok h k (by omega), Option.bind_some, hF, if_neg nn]
        show (spec_l15Around.f k t ((r / 3 : Nat) : Int) ((r % 3 : Nat) : Int)).bind _ = _
        rw [sa, Option.bind_some]
        exact e'.trans (i2 _ (by omega))
      · obtain ⟨k, rfl⟩ : ∃ m, k = m + 1 := ⟨k - 1, by omega⟩
        simp only [impl_PlainCurve.l0]
        have e := impl_pl_l1 ok ht hr S h (3 * t.length) 0 k (by omega) (by omega)
        rw [hF] at e
        have e' : impl_PlainCurve.l1 k t up x 0 false = impl_PlainCurve.l2 (k - (r - 0) - 1) t up x (r : Int) (aroundR t n (cr r)) 0 := e
        have g := impl_pl_l2 t up x (aroundR t n (cr r)) r (by omega) hl (by omega) hb x.length 0 (k - (r - 0) - 1) (by omega) (by omega)
        have g' : impl_PlainCurve.l2 (k - (r - 0) - 1) t up x (r : Int) (aroundR t n (cr r)) 0 = impl_PlainCurve.l1 (k - (r - 0) - 1 - x.length - 1) t up (subL x (aroundR t n (cr r))) ((r + 1 : Nat) : Int) true := g
        rw [if_pos trivial, e', g']
        obtain ⟨k2, hk2⟩ : ∃ m, k - (r - 0) - 1 - x.length - 1 = m + 1 := ⟨k - (r - 0) - 1 - x.length - 2, by omega⟩
        have fin := i3 k2 (by omega)
        rw [hk2]
        simp only [impl_PlainCurve.l1]
        by_cases z : ((r + 1 : Nat) : Int) < wrap64 (3 * (t.length : Int))
        · rw [if_pos z, if_pos trivial]
          exact fin
        · rw [if_neg z]
          exact fin
    | none =>
      obtain ⟨rr, i1, i2, i3⟩ : ∃ r : List Int, Inv t n r ∧ (∀ k, 3001000 + 100 * (s + 1) < k → spec_PlainCurve.l0 k t x = some (r, true)) ∧ (∀ k, 3001000 + 100 * (s + 1) < k → impl_PlainCurve.l0 k t up x true = some (r, true)) := by
        refine ⟨x, h, fun k hk => ?_, fun k hk => ?_⟩
        · obtain ⟨k, rfl⟩ : ∃ m, k = m + 1 := ⟨k - 1, by omega⟩
          simp only [spec_PlainCurve.l0]
          rw [loose_f ok h k (by omega), Option.bind_some, hF]
          rfl
        · obtain ⟨k, rfl⟩ : ∃ m, k = m + 1 := ⟨k - 1, by omega⟩
          simp only [impl_PlainCurve.l0]
          have e := impl_pl_l1 ok ht hr S h (3 * t.length) 0 k (by omega) (by omega)
          rw [hF] at e
          have e' : impl_PlainCurve.l1 k t up x 0 false = impl_PlainCurve.l0 (k - 3 * t.length - 1) t up x false := e
          rw [if_pos trivial, e']
          obtain ⟨k2, hk2⟩ : ∃ m, k - 3 * t.length - 1 = m + 1 := ⟨k - 3 * t.length - 2, by omega⟩
          rw [hk2]
          simp only [impl_PlainCurve.l0]
          rfl
      exact ⟨rr, i1, i2, i3⟩
/-- Both answer, and alike. -/
theorem plain_f (t : List (List Int)) (ht : t.length ≤ 1048576) (hr : ∀ r ∈ t, r.length ≤ 1048576) (x : List Int) (hx : x.length ≤ 1048576) : ∃ r b, (∀ k, 8000000 < k → spec_PlainCurve.f k t x = some (r, b)) ∧ (∀ k, 8000000 < k → impl_PlainCurve.f k t x = some (r, b)) ∧ ((b = true ∧ ∃ n : Nat, TriOk t (n : Int) ∧ Inv t n r ∧ isF t x = true) ∨ (b = false ∧ r = [] ∧ isF t x = false)) := by
  by_cases h : isF t x = true
  · obtain ⟨ok0, hxl, hc, hf⟩ := isF_ok ht h
    have n3 := ok0.n3
    obtain ⟨n, hn⟩ : ∃ n : Nat, edges t = (n : Int) := ⟨(edges t).toNat, by omega⟩
    rw [hn] at ok0 hxl
    have n9 := ok0.n9
    have inv : Inv t n x := ⟨by omega, hc, fun i hi j hj => (tw_even ok0 hc hi (hf _ (List.getElem_mem hi)) j hj).1⟩
    obtain ⟨up, e1, S⟩ := vert_f ok0 ht hr 3000301 (by omega)
    obtain ⟨r, i1, i2, i3⟩ := plain_run ok0 ht hr S 2000 x inv (by
      have := sumP_le x (fun a ha => (co_at hc ha).2)
      omega)
    refine ⟨r, true, fun k hk => ?_, fun k hk => ?_, .inl ⟨rfl, n, ok0, i1, h⟩⟩
    · unfold spec_PlainCurve.f
      rw [spec_fair t ht x k (by omega), Option.bind_some, if_pos h, Option.bind_some, if_pos (by simp; omega), List.nil_append]
      exact i2 k (by omega)
    · unfold impl_PlainCurve.f
      have e2 : impl_vertices.f k t = some up := by
        obtain ⟨up', e', _⟩ := vert_f ok0 ht hr k (by omega)
        have mono : ∀ d, LeO (impl_vertices.f 3000301 t) (impl_vertices.f (3000301 + d) t) := by
          intro d
          induction d with
          | zero => exact fun r h => h
          | succ d ihd => exact fun r h => impl_vertices.mono t (3000301 + d) r (ihd r h)
        have := mono (k - 3000301) up e1
        rwa [show 3000301 + (k - 3000301) = k by omega] at this
      rw [impl_fair t ht x k (by omega), Option.bind_some, if_pos h, e2, Option.bind_some, copyOf_f x hx, Option.bind_some]
      exact i3 k (by omega)
  · have h' : isF t x = false := by simpa using h
    refine ⟨[], false, fun k hk => ?_, fun k hk => ?_, .inr ⟨rfl, rfl, h'⟩⟩
    · unfold spec_PlainCurve.f
      rw [spec_fair t ht x k (by omega), Option.bind_some, if_neg h]
    · unfold impl_PlainCurve.f
      rw [impl_fair t ht x k (by omega), Option.bind_some, if_neg h]
end Go.Proofs.Ytjmgbaphlhimhaa.L

namespace Go.Proofs.Ytjmgbaphlhimhaa.L
open Go.RowKit Go.Proofs.Ytjmgbaphlhimhaa.P Go.Proofs.Ytjmgbaphlhimhaa.Help Go.Proofs.YtjmgbaphlhimhaaW.PrintWords
set_option linter.unusedVariables false
set_option linter.unusedSimpArgs false

end Go.Proofs.Ytjmgbaphlhimhaa.L

namespace Go.Proofs.Ytjmgbaphlhimhaa.L
open Go.RowKit Go.Proofs.Ytjmgbaphlhimhaa.P Go.Proofs.Ytjmgbaphlhimhaa.Help Go.Proofs.YtjmgbaphlhimhaaW.PrintWords
set_option linter.unusedVariables false
set_option linter.unusedSimpArgs false

/-- Two numbers by their greatest common divisor. -/
theorem parts (p q : Int) (h : ¬ (p = 0 ∧ q = 0)) : ∃ g m n : Int, 0 < g ∧ (Int.gcd p q : Int) = g ∧ p = g * m ∧ q = g * n ∧ p.tdiv g = m ∧ q.tdiv g = n ∧ (n < 0 ↔ q < 0) ∧ (n = 0 ↔ q = 0) ∧ (m < 0 ↔ p < 0) ∧ (m = 0 ↔ p = 0) ∧ m.natAbs ≤ p.natAbs ∧ n.natAbs ≤ q.natAbs := by
  have hg : 0 < (Int.gcd p q : Int) := by
    have : Int.gcd p q ≠ 0 := fun h0 => h (Int.gcd_eq_zero_iff.1 h0)
    omega
  obtain ⟨m, hm⟩ := Int.gcd_dvd_left (a := p) (b := q)
  obtain ⟨n, hn⟩ := Int.gcd_dvd_right (a := p) (b := q)
  have sgn : ∀ x y : Int, y = (Int.gcd p q : Int) * x → (x < 0 ↔ y < 0) ∧ (x = 0 ↔ y = 0) ∧ x.natAbs ≤ y.natAbs ∧ y.tdiv (Int.gcd p q : Int) = x := by
    intro x y hy
    refine ⟨?_, ?_, ?_, ?_⟩
    · constructor
      · intro hx; rw [hy]; exact Int.mul_neg_of_pos_of_neg hg hx
      · intro hlt
        rcases Int.lt_or_le x 0 with hx | hx
        · exact hx
        · have := Int.mul_nonneg (Int.le_of_lt hg) hx
          omega
    · constructor
      · intro hx; rw [hy, hx, Int.mul_zero]
      · intro h0
        rw [hy] at h0
        rcases Int.mul_eq_zero.1 h0 with h1 | h1
        · omega
        · exact h1
    · rw [hy, Int.natAbs_mul]
      exact Nat.le_mul_of_pos_left _ (by omega)
    · rw [hy, Int.mul_tdiv_cancel_left _ (by omega)]
  obtain ⟨a1, a2, a3, a4⟩ := sgn m p hm
  obtain ⟨b1, b2, b3, b4⟩ := sgn n q hn
  exact ⟨_, m, n, hg, rfl, hm, hn, a4, b4, b1, b2, a1, a2, a3, b3⟩
end Go.Proofs.Ytjmgbaphlhimhaa.L


namespace Go.Proofs.Ytjmgbaphlhimhaa.L
open Go.RowKit Go.Proofs.Ytjmgbaphlhimhaa.P Go.Proofs.Ytjmgbaphlhimhaa.Help Go.Proofs.YtjmgbaphlhimhaaW.PrintWords
set_option linter.unusedVariables false
set_option linter.unusedSimpArgs false

end Go.Proofs.Ytjmgbaphlhimhaa.L


namespace Go.Proofs.Ytjmgbaphlhimhaa.L
open Go.RowKit Go.Proofs.Ytjmgbaphlhimhaa.P Go.Proofs.Ytjmgbaphlhimhaa.Help Go.Proofs.YtjmgbaphlhimhaaW.PrintWords
set_option linter.unusedVariables false
set_option linter.unusedSimpArgs false

end Go.Proofs.Ytjmgbaphlhimhaa.L

namespace Go.Proofs.Ytjmgbaphlhimhaa.L
open Go.RowKit Go.Proofs.Ytjmgbaphlhimhaa.P Go.Proofs.Ytjmgbaphlhimhaa.Help Go.Proofs.YtjmgbaphlhimhaaW.PrintWords
set_option linter.unusedVariables false
set_option linter.unusedSimpArgs false

def tor : List (List Int) := [[1, 2, 3], [-1, -2, -3]]
theorem tor_len : tor.length ≤ 1048576 := by decide
theorem tor_rows : ∀ r ∈ tor, r.length ≤ 1048576 := by
  intro r hr
  have : r = [1, 2, 3] ∨ r = [-1, -2, -3] := by simpa [tor] using hr
  rcases this with e | e
  · rw [e]; decide
  · rw [e]; decide
end Go.Proofs.Ytjmgbaphlhimhaa.L

namespace Go.Proofs.Ytjmgbaphlhimhaa.L
open Go.RowKit Go.Proofs.Ytjmgbaphlhimhaa.P Go.Proofs.Ytjmgbaphlhimhaa.Help Go.Proofs.YtjmgbaphlhimhaaW.PrintWords Go.Proofs.YtjmgbaphlhimhaaW.PrintLast Go.Proofs.YtjmgbaphlhimhaaW.PrintMore
set_option linter.unusedVariables false
set_option linter.unusedSimpArgs false

theorem l1Max_s (a b : Int) : spec_l1Max.f a b = some (mx a b) := by
  unfold spec_l1Max.f mx
  by_cases h : a > b
  · rw [if_pos h, if_neg (by omega)]
  · rw [if_neg h]
    by_cases h2 : a < b
    · rw [if_pos h2]
    · rw [if_neg h2]; congr 1; omega
theorem bit_s (b : Bool) : spec_l1Bit.f b = some (if b = true then 1 else 0) := by
  unfold spec_l1Bit.f
  cases b <;> rfl
/-- The place of the greatest of three. -/
def selI (y : List Int) : Int := if rd y 1 > rd y 0 then (if rd y 2 > rd y 1 then 2 else 1) else (if rd y 2 > rd y 0 then 2 else 0)
def stV (y : List Int) : Int := 2 * mx (rd y ((selI y + 1) % 3)) (rd y ((selI y + 2) % 3)) - rd y (selI y)
def lt (y : List Int) : ByteArray := ⟨#[97 + UInt8.ofNat (selI y).toNat]⟩
def goP : Nat → List Int → ByteArray → ByteArray
  | 0, _, _ => ⟨#[]⟩
  | n + 1, y, o => if 0 < rd y 0 ∧ 0 < rd y 1 ∧ 0 < rd y 2 then goP n (y.set (selI y).toNat (stV y)) (o ++ lt y) else o
/-- Three coordinates, none more than the sum of the others. -/
structure T3 (y : List Int) : Prop where
  len : y.length = 3
  b0 : 0 ≤ rd y 0 ∧ rd y 0 ≤ 200
  b1 : 0 ≤ rd y 1 ∧ rd y 1 ≤ 200
  b2 : 0 ≤ rd y 2 ∧ rd y 2 ≤ 200
  t0 : rd y 0 ≤ rd y 1 + rd y 2
  t1 : rd y 1 ≤ rd y 0 + rd y 2
  t2 : rd y 2 ≤ rd y 0 + rd y 1
theorem sel_cases (y : List Int) : (selI y = 0 ∧ rd y 1 ≤ rd y 0 ∧ rd y 2 ≤ rd y 0) ∨ (selI y = 1 ∧ rd y 0 ≤ rd y 1 ∧ rd y 2 ≤ rd y 1) ∨ (selI y = 2 ∧ rd y 0 ≤ rd y 2 ∧ rd y 1 ≤ rd y 2) := by
  unfold selI
  repeat' split
  all_goals omega
theorem spec_sel (k : Nat) (y : List Int) (hy : y.length = 3) (o : ByteArray) : spec_SplitPath.l1 (k + 3) y o 0 1 = spec_SplitPath.l1 (k + 1) y o (selI y) 3 := by
  have w1 : wrap64 (1 + 1) = 2 := by decide +kernel
  have w2 : wrap64 (2 + 1) = 3 := by decide +kernel
  rw [show k + 3 = (k + 2) + 1 from rfl]
  conv => lhs; unfold spec_SplitPath.l1
  rw [hy, if_pos (by decide), if_pos (by decide), if_pos (by decide), if_pos (by decide), if_pos (by decide), w1]
  unfold selI
  by_cases h : rd y 1 > rd y 0
  · rw [if_pos h, if_pos h, show k + 2 = (k + 1) + 1 from rfl]
    conv => lhs; unfold spec_SplitPath.l1
    rw [hy, if_pos (by decide), if_pos (by decide), if_pos (by decide), if_pos (by decide), if_pos (by decide), w2]
    by_cases h2 : rd y 2 > rd y 1
    · rw [if_pos h2, if_pos h2]
    · rw [if_neg h2, if_neg h2]
  · rw [if_neg h, if_neg h, show k + 2 = (k + 1) + 1 from rfl]
    conv => lhs; unfold spec_SplitPath.l1
    rw [hy, if_pos (by decide), if_pos (by decide), if_pos (by decide), if_pos (by decide), if_pos (by decide), w2]
    by_cases h2 : rd y 2 > rd y 0
    · rw [if_pos h2, if_pos h2]
    · rw [if_neg h2, if_neg h2]
theorem impl_sel (k : Nat) (y : List Int) (hy : y.length = 3) (o : ByteArray) : impl_SplitPath.l1 (k + 4) y o 0 0 = impl_SplitPath.l1 (k + 1) y o (selI y) 3 := by
  have w0 : wrap64 (0 + 1) = 1 := by decide +kernel
  have w1 : wrap64 (1 + 1) = 2 := by decide +kernel
  have w2 : wrap64 (2 + 1) = 3 := by decide +kernel
  rw [show k + 4 = (k + 3) + 1 from rfl]
  conv => lhs; unfold impl_SplitPath.l1
  rw [hy, if_pos (by decide), if_pos (by decide), if_pos (by decide), if_pos (by decide), if_neg (Int.lt_irrefl _), w0, show k + 3 = (k + 2) + 1 from rfl]
  conv => lhs; unfold impl_SplitPath.l1
  rw [hy, if_pos (by decide), if_pos (by decide), if_pos (by decide), if_pos (by decide), w1]
  unfold selI
  by_cases h : rd y 1 > rd y 0
  · rw [if_pos h, if_pos h, show k + 2 = (k + 1) + 1 from rfl]
    conv => lhs; unfold impl_SplitPath.l1
    rw [hy, if_pos (by decide), if_pos (by decide), if_pos (by decide), if_pos (by decide), w2]
    by_cases h2 : rd y 2 > rd y 1
    · rw [if_pos h2, if_pos h2]
    · rw [if_neg h2, if_neg h2]
  · rw [if_neg h, if_neg h, show k + 2 = (k + 1) + 1 from rfl]
    conv => lhs; unfold impl_SplitPath.l1
    rw [hy, if_pos (by decide), if_pos (by decide), if_pos (by decide), if_pos (by decide), w2]
    by_cases h2 : rd y 2 > rd y 0
    · rw [if_pos h2, if_pos h2]
    · rw [if_neg h2, if_neg h2]
theorem spec_exit (k : Nat) (y : List Int) (hy : y.length = 3) (o : ByteArray) (ho : o.size ≤ 24) (e p q : Int) (he : 0 ≤ e ∧ e < 3) (hp : Int.tmod (wrap64 (e + 1)) 3 = p) (hq : Int.tmod (wrap64 (e + 2)) 3 = q) (bp : 0 ≤ p ∧ p < 3) (bq : 0 ≤ q ∧ q < 3) (l : ByteArray) (hl : (⟨#[97, 98, 99]⟩ : ByteArray).extract e.toNat (e + 1).toNat = l) (l1 : l.size = 1) (v : Int) (hv : wrap64 (wrap64 (2 * mx (rd y p) (rd y q)) - rd y e) = v) :
    spec_SplitPath.l1 (k + 1) y o e 3 = if o.size = 24 then some (⟨#[]⟩ : ByteArray) else spec_SplitPath.l0 k (y.set e.toNat v) (o ++ l) := by
  have w1 : wrap64 (e + 1) = e + 1 := w_id (by omega) (by omega)
  conv => lhs; unfold spec_SplitPath.l1
  rw [if_neg (by decide), hp, hq, hy, if_pos bp.1, if_pos (by omega), if_pos bq.1, if_pos (by omega), l1Max_s, Option.bind_some, if_pos he.1, if_pos (by omega), w1, if_pos (by omega), if_pos (by omega), hl, if_pos (by omega), ByteArray.size_append, hv, l1]
  by_cases h : o.size = 24
  · rw [if_pos h, if_pos (by omega)]
  · rw [if_neg h, if_neg (by omega)]
theorem impl_exit (k : Nat) (y : List Int) (hy : y.length = 3) (o : ByteArray) (ho : o.size ≤ 24) (e p q : Int) (he : 0 ≤ e ∧ e < 3) (hp : Int.tmod (wrap64 (e + 1)) 3 = p) (hq : Int.tmod (wrap64 (e + 2)) 3 = q) (bp : 0 ≤ p ∧ p < 3) (bq : 0 ≤ q ∧ q < 3) (l : ByteArray) (hl : impl_letterText.f (wrap64 (e + 1)) = some l) (l1 : l.size = 1) (v : Int) (hv : wrap64 (wrap64 (2 * mx (rd y p) (rd y q)) - rd y e) = v) :
    impl_SplitPath.l1 (k + 1) y o e 3 = impl_SplitPath.l0 k (y.set e.toNat v) (o ++ l) := by
  conv => lhs; unfold impl_SplitPath.l1
  rw [hy, if_neg (by decide), if_pos he.1, if_pos (by omega), hp, hq, if_pos bp.1, if_pos (by omega), if_pos bq.1, if_pos (by omega), hl, Option.bind_some, if_pos (by omega), hv]
theorem mx_bd {a b : Int} (ha : 0 ≤ a ∧ a ≤ 200) (hb : 0 ≤ b ∧ b ≤ 200) : (0 ≤ mx a b ∧ mx a b ≤ 200) ∧ a ≤ mx a b ∧ b ≤ mx a b ∧ (mx a b = a ∨ mx a b = b) := by
  unfold mx
  split <;> omega
/-- What both need to know at a place. -/
theorem at_sel {y : List Int} (h : T3 y) : ∃ e p q : Int, selI y = e ∧ (0 ≤ e ∧ e < 3) ∧ Int.tmod (wrap64 (e + 1)) 3 = p ∧ Int.tmod (wrap64 (e + 2)) 3 = q ∧ (0 ≤ p ∧ p < 3) ∧ (0 ≤ q ∧ q < 3) ∧ (⟨#[97, 98, 99]⟩ : ByteArray).extract e.toNat (e + 1).toNat = lt y ∧ impl_letterText.f (wrap64 (e + 1)) = some (lt y) ∧
    wrap64 (wrap64 (2 * mx (rd y p) (rd y q)) - rd y e) = stV y ∧ T3 (y.set e.toNat (stV y)) := by
  obtain ⟨hl, b0, b1, b2, t0, t1, t2⟩ := h
  match y, hl with
  | [a, b, c], _ =>
    have r0 : rd [a, b, c] 0 = a := rfl
    have r1 : rd [a, b, c] 1 = b := rfl
    have r2 : rd [a, b, c] 2 = c := rfl
    rw [r0] at b0 t0 t1 t2
    rw [r1] at b1 t0 t1 t2
    rw [r2] at b2 t0 t1 t2
    have hs := sel_cases [a, b, c]
    rw [r0, r1, r2] at hs
    rcases hs with ⟨e, g1, g2⟩ | ⟨e, g1, g2⟩ | ⟨e, g1, g2⟩
    · obtain ⟨m1, m2, m3, m4⟩ := mx_bd b1 b2
      have hv : stV [a, b, c] = 2 * mx b c - a := by unfold stV; rw [e]; rfl
      have w1 : wrap64 (2 * mx b c) = 2 * mx b c := w_id (by omega) (by omega)
      refine ⟨0, 1, 2, e, by decide, by decide +kernel, by decide +kernel, by decide, by decide, by unfold lt; rw [e]; rfl, by unfold lt; rw [e]; decide +kernel, ?_, ?_⟩
      · rw [hv, r1, r2, r0, w1]; exact w_id (by omega) (by omega)
      · rw [hv]
        generalize mx b c = m at *
        exact ⟨rfl, show 0 ≤ 2 * m - a ∧ 2 * m - a ≤ 200 by omega, b1, b2, show 2 * m - a ≤ b + c by omega, show b ≤ (2 * m - a) + c by omega, show c ≤ (2 * m - a) + b by omega⟩
    · obtain ⟨m1, m2, m3, m4⟩ := mx_bd b2 b0
      have hv : stV [a, b, c] = 2 * mx c a - b := by unfold stV; rw [e]; rfl
      have w1 : wrap64 (2 * mx c a) = 2 * mx c a := w_id (by omega) (by omega)
      refine ⟨1, 2, 0, e, by decide, by decide +kernel, by decide +kernel, by decide, by decide, by unfold lt; rw [e]; rfl, by unfold lt; rw [e]; decide +kernel, ?_, ?_⟩
      · rw [hv, r1, r2, r0, w1]; exact w_id (by omega) (by omega)
      · rw [hv]
        generalize mx c a = m at *
        exact ⟨rfl, b0, show 0 ≤ 2 * m - b ∧ 2 * m - b ≤ 200 by omega, b2, show a ≤ (2 * m - b) + c by omega, show 2 * m - b ≤ a + c by omega, show c ≤ a + (2 * m - b) by omega⟩
    · obtain ⟨m1, m2, m3, m4⟩ := mx_bd b0 b1
      have hv : stV [a, b, c] = 2 * mx a b - c := by unfold stV; rw [e]; rfl
      have w1 : wrap64 (2 * mx a b) = 2 * mx a b := w_id (by omega) (by omega)
      refine ⟨2, 0, 1, e, by decide, by decide +kernel, by decide +kernel, by decide, by decide, by unfold lt; rw [e]; rfl, by unfold lt; rw [e]; decide +kernel, ?_, ?_⟩
      · rw [hv, r1, r2, r0, w1]; exact w_id (by omega) (by omega)
      · rw [hv]
        generalize mx a b = m at *
        exact ⟨rfl, b0, b1, show 0 ≤ 2 * m - c ∧ 2 * m - c ≤ 200 by omega, show a ≤ b + (2 * m - c) by omega, show b ≤ a + (2 * m - c) by omega, show 2 * m - c ≤ a + b by omega⟩
theorem lt_size (y : List Int) : (lt y).size = 1 := rfl
theorem split_spec : ∀ (n : Nat) (y : List Int) (o : ByteArray), T3 y → o.size + n = 24 → ∀ k, 4 * n + 5 < k → spec_SplitPath.l0 k y o = some (goP (n + 1) y o)
  | n, y, o, h, hn, k, hk => by
    obtain ⟨k, rfl⟩ : ∃ m, k = m + 4 := ⟨k - 4, by omega⟩
    have hl := h.len
    obtain ⟨b0, b1, b2⟩ := And.intro h.b0 (And.intro h.b1 h.b2)
    rw [show k + 4 = (k + 3) + 1 from rfl]
    conv => lhs; unfold spec_SplitPath.l0
    rw [hl, if_pos (by decide), bit_s, Option.bind_some, if_pos (by decide), bit_s, Option.bind_some, if_pos (by decide), bit_s, Option.bind_some]
    have ew : wrap64 (wrap64 ((if (rd y 0 == 0) = true then (1 : Int) else 0) + (if (rd y 1 == 0) = true then (1 : Int) else 0)) + (if (rd y 2 == 0) = true then (1 : Int) else 0)) = (if (rd y 0 == 0) = true then (1 : Int) else 0) + (if (rd y 1 == 0) = true then (1 : Int) else 0) + (if (rd y 2 == 0) = true then (1 : Int) else 0) := by
      generalize (rd y 0 == 0) = u0
      generalize (rd y 1 == 0) = u1
      generalize (rd y 2 == 0) = u2
      cases u0 <;> cases u1 <;> cases u2 <;> decide +kernel
    rw [ew, goP]
    by_cases hp : 0 < rd y 0 ∧ 0 < rd y 1 ∧ 0 < rd y 2
    · have e0 : (rd y 0 == 0) = false := beq_eq_false_iff_ne.2 (by omega)
      have e1 : (rd y 1 == 0) = false := beq_eq_false_iff_ne.2 (by omega)
      have e2 : (rd y 2 == 0) = false := beq_eq_false_iff_ne.2 (by omega)
      obtain ⟨e, p, q, hs, he, hp', hq, bp, bq, hx, _, hv, ht⟩ := at_sel h
      rw [if_pos hp, e0, e1, e2, if_pos (by decide), spec_sel k y hl o, hs, spec_exit k y hl o (by omega) e p q he hp' hq bp bq (lt y) hx (lt_size y) (stV y) hv]
      by_cases hz : o.size = 24
      · rw [if_pos hz, show n = 0 by omega, goP]
      · rw [if_neg hz]
        obtain ⟨m, rfl⟩ : ∃ m, n = m + 1 := ⟨n - 1, by omega⟩
        exact split_spec m _ _ ht (by rw [ByteArray.size_append, lt_size]; omega) k (by omega)
    · rw [if_neg hp, if_neg ?_]
      have : rd y 0 = 0 ∨ rd y 1 = 0 ∨ rd y 2 = 0 := by omega
      rcases this with z | z | z
      · rw [z]
        have : (((0 : Int) == 0) = true) := rfl
        rw [if_pos this]
        split <;> split <;> omega
      · rw [z]
        have : (((0 : Int) == 0) = true) := rfl
        rw [if_pos this]
        split <;> split <;> omega
      · rw [z]
        have : (((0 : Int) == 0) = true) := rfl
        rw [if_pos this]
        split <;> split <;> omega
theorem split_impl : ∀ (n : Nat) (y : List Int) (o : ByteArray), T3 y → o.size + n = 24 → ∀ k, 5 * n + 6 < k → impl_SplitPath.l0 k y o = some (goP (n + 1) y o)
  | n, y, o, h, hn, k, hk => by
    obtain ⟨k, rfl⟩ : ∃ m, k = m + 5 := ⟨k - 5, by omega⟩
    have hl := h.len
    obtain ⟨b0, b1, b2⟩ := And.intro h.b0 (And.intro h.b1 h.b2)
    rw [show k + 5 = (k + 4) + 1 from rfl]
    conv => lhs; unfold impl_SplitPath.l0
    rw [hl, if_pos (by decide), goP]
    by_cases hp : 0 < rd y 0 ∧ 0 < rd y 1 ∧ 0 < rd y 2
    · obtain ⟨e, p, q, hs, he, hp', hq, bp, bq, _, hx, hv, ht⟩ := at_sel h
      rw [if_pos hp, if_pos hp.1, if_pos (by decide), if_pos hp.2.1, if_pos (by decide), if_pos hp.2.2]
      by_cases hz : o.size = 24
      · rw [if_pos (by omega), show n = 0 by omega, goP]
      · rw [if_neg (by omega), impl_sel k y hl o, hs, impl_exit k y hl o (by omega) e p q he hp' hq bp bq (lt y) hx (lt_size y) (stV y) hv]
        obtain ⟨m, rfl⟩ : ∃ m, n = m + 1 := ⟨n - 1, by omega⟩
        exact split_impl m _ _ ht (by rw [ByteArray.size_append, lt_size]; omega) k (by omega)
    · rw [if_neg hp]
      by_cases c0 : rd y 0 > 0
      · rw [if_pos c0, if_pos (by decide)]
        by_cases c1 : rd y 1 > 0
        · rw [if_pos c1, if_pos (by decide), if_neg (by omega)]
        · rw [if_neg c1]
      · rw [if_neg c0]
theorem dec_cons (x y : Int) (u v : List Int) : decide (x :: u = y :: v) = (decide (x = y) && decide (u = v)) := by
  by_cases h : x = y <;> by_cases h2 : u = v <;> simp [h, h2]
theorem same_l0 (a b : List Int) (hl : a.length = b.length) (ha : a.length ≤ 1048576) : ∀ (d k i : Nat), i + d = a.length → d < k → spec_l2Same.l0 k a b (i : Int) = some (decide (a.drop i = b.drop i)) ∧ impl_sameInts.l0 k b a (b.length : Int) (i : Int) = some (decide (a.drop i = b.drop i))
  | 0, k, i, hi, hk => by
    obtain ⟨k, rfl⟩ : ∃ m, k = m + 1 := ⟨k - 1, by omega⟩
    have e : a.drop i = b.drop i := by rw [List.drop_of_length_le (by omega), List.drop_of_length_le (by omega)]
    simp only [spec_l2Same.l0, impl_sameInts.l0]
    rw [if_neg (by omega), if_neg (by omega), decide_eq_true e]
    exact ⟨rfl, rfl⟩
  | d + 1, k, i, hi, hk => by
    obtain ⟨k, rfl⟩ : ∃ m, k = m + 1 := ⟨k - 1, by omega⟩
    have h1 : i < a.length := by omega
    have h2 : i < b.length := by omega
    obtain ⟨s1, s2⟩ := same_l0 a b hl ha d k (i + 1) (by omega) (by omega)
    have ei : ((i : Int) + 1) = ((i + 1 : Nat) : Int) := by omega
    rw [List.drop_eq_getElem_cons h1, List.drop_eq_getElem_cons h2]
    refine ⟨?_, ?_⟩
    · simp only [spec_l2Same.l0]
      rw [if_pos (by omega), if_pos (by omega), if_pos (by omega), rd_nat a i h1, rd_nat b i h2, w_id (a := (i : Int) + 1) (by omega) (by omega), ei, s1]
      by_cases e : a[i] = b[i]
      · rw [if_pos e, dec_cons, decide_eq_true e, Bool.true_and]
      · rw [if_neg e, dec_cons, decide_eq_false e, Bool.false_and]
    · simp only [impl_sameInts.l0]
      rw [if_pos (by omega), if_pos (by omega), if_pos (by omega), if_pos (by omega), rd_nat a i h1, rd_nat b i h2, w_id (a := (i : Int) + 1) (by omega) (by omega), ei, s2]
      by_cases e : a[i] = b[i]
      · rw [if_pos e.symm, dec_cons, decide_eq_true e, Bool.true_and]
      · rw [if_neg (fun h => e h.symm), dec_cons, decide_eq_false e, Bool.false_and]
theorem same_f (a b : List Int) (ha : a.length ≤ 1048576) (k : Nat) (hk : 1048577 < k) : spec_l2Same.f k a b = some (decide (a = b)) ∧ impl_sameInts.f k b a = some (decide (a = b)) := by
  unfold spec_l2Same.f impl_sameInts.f
  by_cases hl : a.length = b.length
  · obtain ⟨s1, s2⟩ := same_l0 a b hl ha a.length k 0 (by omega) (by omega)
    rw [if_pos (by omega), if_pos (by omega)]
    exact ⟨s1, s2⟩
  · rw [if_neg (by omega), if_neg (by omega), decide_eq_false (fun h => hl (by rw [h]))]
    exact ⟨rfl, rfl⟩
/-- Both answer, and alike. -/
theorem split_f (x : List Int) (hx : x.length ≤ 1048576) : ∃ s : ByteArray, (∀ k, 9000000 < k → spec_SplitPath.f k x = some s) ∧ (∀ k, 9000000 < k → impl_SplitPath.f k x = some s) := by
  obtain ⟨r, b, f1, f2, hc⟩ := plain_f tor tor_len tor_rows x hx
  have j1 : ∀ k, 9000000 < k → ∀ y, spec_SplitPath.j0 k y true = some (⟨#[]⟩ : ByteArray) := by
    intro k hk y
    obtain ⟨k, rfl⟩ : ∃ m, k = m + 1 := ⟨k - 1, by omega⟩
    simp only [spec_SplitPath.j0]
    rw [if_pos trivial]
  rcases hc with ⟨rfl, n, ok, inv, _⟩ | ⟨rfl, rfl, _⟩
  · have hn : n = 3 := by
      have h0 := ok.len
      have h1 : ((tor.length : Nat) : Int) = 2 := rfl
      rw [h1] at h0
      omega
    have hl := inv.len
    rw [hn] at hl
    have h3 : T3 r := by
      have g0 := inv.ge 0 (by decide) 0 (by decide)
      have g1 := inv.ge 0 (by decide) 1 (by decide)
      have g2 := inv.ge 0 (by decide) 2 (by decide)
      match r, hl with
      | [a, b, c], _ =>
        have ha := co_at inv.cs (show a ∈ [a, b, c] by simp)
        have hb := co_at inv.cs (show b ∈ [a, b, c] by simp)
        have hcc := co_at inv.cs (show c ∈ [a, b, c] by simp)
        have e0 : tw tor [a, b, c] 0 0 = a + b - c := rfl
        have e1 : tw tor [a, b, c] 0 1 = b + c - a := rfl
        have e2 : tw tor [a, b, c] 0 2 = c + a - b := rfl
        rw [e0] at g0
        rw [e1] at g1
        rw [e2] at g2
        exact ⟨rfl, ha, hb, hcc, show a ≤ b + c by omega, show b ≤ a + c by omega, show c ≤ a + b by omega⟩
    refine ⟨if x = r then goP 25 r ⟨#[]⟩ else ⟨#[]⟩, fun k hk => ?_, fun k hk => ?_⟩
    · unfold spec_SplitPath.f spec_l17Tri.f
      rw [Option.bind_some, show spec_PlainCurve.f k [[1, 2, 3], [-1, -2, -3]] x = some (r, true) from f1 k (by omega), Option.bind_some]
      dsimp only
      rw [if_pos rfl, (same_f x r hx k (by omega)).1, Option.bind_some]
      by_cases e : x = r
      · rw [if_pos e, decide_eq_true e]
        obtain ⟨k, rfl⟩ : ∃ m, k = m + 1 := ⟨k - 1, by omega⟩
        simp only [spec_SplitPath.j0]
        rw [if_neg (by decide)]
        exact split_spec 24 r ⟨#[]⟩ h3 rfl k (by omega)
      · rw [if_neg e, decide_eq_false e]
        exact j1 k hk r
    · unfold impl_SplitPath.f impl_torus.f
      rw [Option.bind_some, show impl_PlainCurve.f k [[1, 2, 3], [-1, -2, -3]] x = some (r, true) from f2 k (by omega), Option.bind_some]
      dsimp only
      rw [if_pos rfl, (same_f x r hx k (by omega)).2, Option.bind_some]
      by_cases e : x = r
      · rw [if_pos e, decide_eq_true e, if_pos rfl]
        exact split_impl 24 r ⟨#[]⟩ h3 rfl k (by omega)
      · rw [if_neg e, decide_eq_false e, if_neg (by decide)]
  · refine ⟨⟨#[]⟩, fun k hk => ?_, fun k hk => ?_⟩
    · unfold spec_SplitPath.f spec_l17Tri.f
      rw [Option.bind_some, show spec_PlainCurve.f k [[1, 2, 3], [-1, -2, -3]] x = some ([], false) from f1 k (by omega), Option.bind_some]
      dsimp only
      rw [if_neg (by decide)]
      exact j1 k hk _
    · unfold impl_SplitPath.f impl_torus.f
      rw [Option.bind_some, show impl_PlainCurve.f k [[1, 2, 3], [-1, -2, -3]] x = some ([], false) from f2 k (by omega), Option.bind_some]
      dsimp only
      rw [if_neg (by decide)]
end Go.Proofs.Ytjmgbaphlhimhaa.L

namespace Go.Proofs.Ytjmgbaphlhimhaa.Pure
open Go.RowKit Go.Proofs.Ytjmgbaphlhimhaa.P Go.Proofs.Ytjmgbaphlhimhaa.Help Go.Proofs.Ytjmgbaphlhimhaa.L
theorem FnExactSplitPath : ∀ (l0 : List Int), l0.length ≤ 9223372036854775807 → (∀ x ∈ l0, I64 x) → ∃ k, laws_FnExactSplitPath.f k l0 = some true := by
  intro x _ _
  refine ⟨10000001, ?_⟩
  unfold laws_FnExactSplitPath.f
  by_cases hx : (x.length : Int) > 1048576
  · rw [if_pos hx]
  · have hxl : x.length ≤ 1048576 := by omega
    obtain ⟨s, f1, f2⟩ := split_f x hxl
    have g1 := f1 10000001 (by decide)
    have g2 := f2 10000001 (by decide)
    have a0 := toIntS_f x hxl 10000001 (by decide)
    have a2 := eqIntS_self x hxl 10000001 (by decide)
    rw [if_neg hx, a0, Option.bind_some, g1, Option.bind_some, Option.bind_some, g2, Option.bind_some, if_pos rfl, Option.bind_some, a2, Option.bind_some, if_pos rfl]
end Go.Proofs.Ytjmgbaphlhimhaa.Pure
