/- Lists of numbers as forests: what joining two classes does, plain Lean; no condition but that the forest is one. -/
namespace Go.Proofs.Ytolmicnapemljaa.UF
set_option linter.unusedVariables false

/-- The number that a number points to. -/
def P (up : List Int) (i : Int) : Int := up.getD i.toNat 0
/-- The way from i ends at r. -/
inductive Root (up : List Int) : Int → Int → Prop
  | here {r : Int} (h : P up r = r) : Root up r r
  | step {i r : Int} (h : P up i ≠ i) (k : Root up (P up i) r) : Root up i r
theorem Root.root {up : List Int} {i r : Int} (h : Root up i r) : P up r = r := by
  induction h with
  | here h => exact h
  | step _ _ ih => exact ih
theorem Root.uniq {up : List Int} {i r : Int} (h : Root up i r) : ∀ {s : Int}, Root up i s → r = s := by
  induction h with
  | here h =>
    intro s hs
    cases hs with
    | here _ => rfl
    | step h2 _ => exact absurd h h2
  | step h k ih =>
    intro s hs
    cases hs with
    | here h2 => exact absurd h2 h
    | step _ k2 => exact ih k2
/-- A forest: every number points to a number, every way ends. -/
def Ok (up : List Int) : Prop := ∀ i : Int, 0 ≤ i → i < up.length → (0 ≤ P up i ∧ P up i < up.length) ∧ ∃ r, Root up i r
theorem Ok.bd {up : List Int} (h : Ok up) {i r : Int} (hr : Root up i r) : 0 ≤ i → i < up.length → 0 ≤ r ∧ r < up.length := by
  induction hr with
  | here _ => exact fun h0 h1 => ⟨h0, h1⟩
  | step _ _ ih => exact fun h0 h1 => ih (h _ h0 h1).1.1 (h _ h0 h1).1.2
theorem P_set {up : List Int} {a b i : Int} (ha : 0 ≤ a) (ha1 : a < up.length) (hi : 0 ≤ i) : P (up.set a.toNat b) i = if i = a then b else P up i := by
  unfold P
  by_cases h : i = a
  · subst h
    rw [if_pos rfl, List.getD_eq_getElem?_getD, List.getElem?_set_self (by omega)]
    rfl
  · rw [if_neg h, List.getD_eq_getElem?_getD, List.getD_eq_getElem?_getD, List.getElem?_set_ne (by omega)]
theorem set_other {up : List Int} (hok : Ok up) {ra rb : Int} (ha : 0 ≤ ra ∧ ra < up.length) (hra : P up ra = ra) {i r : Int} (h : Root up i r) : 0 ≤ i → i < up.length → r ≠ ra → Root (up.set ra.toNat rb) i r := by
  induction h with
  | here h =>
    intro h0 h1 hne
    exact .here (by rw [P_set ha.1 ha.2 h0, if_neg hne]; exact h)
  | @step i r h k ih =>
    intro h0 h1 hne
    have hi : i ≠ ra := fun e => h (by rw [e]; exact hra)
    have hp : P (up.set ra.toNat rb) i = P up i := by rw [P_set ha.1 ha.2 h0, if_neg hi]
    exact .step (by rw [hp]; exact h) (by rw [hp]; exact ih (hok i h0 h1).1.1 (hok i h0 h1).1.2 hne)
theorem set_same {up : List Int} (hok : Ok up) {ra rb : Int} (ha : 0 ≤ ra ∧ ra < up.length) (hb : 0 ≤ rb ∧ rb < up.length) (hra : P up ra = ra) (hrb : P up rb = rb) {i r : Int} (h : Root up i r) : 0 ≤ i → i < up.length → r = ra → Root (up.set ra.toNat rb) i rb := by
  induction h with
  | @here r h =>
    intro h0 h1 e
    subst e
    by_cases hab : r = rb
    · subst hab
      exact .here (by rw [P_set ha.1 ha.2 h0, if_pos rfl])
    · have hp : P (up.set r.toNat rb) r = rb := by rw [P_set ha.1 ha.2 h0, if_pos rfl]
      refine .step (by rw [hp]; exact fun e => hab e.symm) ?_
      rw [hp]
      exact set_other hok ha hra (.here hrb) hb.1 hb.2 (fun e => hab e.symm)
  | @step i r h k ih =>
    intro h0 h1 e
    have hi : i ≠ ra := fun e => h (by rw [e]; exact hra)
    have hp : P (up.set ra.toNat rb) i = P up i := by rw [P_set ha.1 ha.2 h0, if_neg hi]
    exact .step (by rw [hp]; exact h) (by rw [hp]; exact ih (hok i h0 h1).1.1 (hok i h0 h1).1.2 e)
theorem Ok.set {up : List Int} (hok : Ok up) {ra rb : Int} (ha : 0 ≤ ra ∧ ra < up.length) (hb : 0 ≤ rb ∧ rb < up.length) (hra : P up ra = ra) (hrb : P up rb = rb) : Ok (up.set ra.toNat rb) := by
  intro i h0 h1
  rw [List.length_set] at h1
  refine ⟨?_, ?_⟩
  · rw [P_set ha.1 ha.2 h0, List.length_set]
    split
    · exact hb
    · exact (hok i h0 h1).1
  · obtain ⟨r, hr⟩ := (hok i h0 h1).2
    by_cases e : r = ra
    · exact ⟨rb, set_same hok ha hb hra hrb hr h0 h1 e⟩
    · exact ⟨r, set_other hok ha hra hr h0 h1 e⟩
/-- Two numbers of one class. -/
def Same (up : List Int) (i j : Int) : Prop := ∃ r, Root up i r ∧ Root up j r
/-- Being of one class, as pairs make it, among the numbers below n. -/
inductive Cls (n : Int) (ps : List (Int × Int)) : Int → Int → Prop
  | refl {i : Int} (h0 : 0 ≤ i) (h1 : i < n) : Cls n ps i i
  | pair {i j : Int} (h : (i, j) ∈ ps) (h0 : 0 ≤ i) (h1 : i < n) (h2 : 0 ≤ j) (h3 : j < n) : Cls n ps i j
  | symm {i j : Int} (h : Cls n ps i j) : Cls n ps j i
  | trans {i j k : Int} (h : Cls n ps i j) (h2 : Cls n ps j k) : Cls n ps i k
theorem Cls.bd {n : Int} {ps : List (Int × Int)} {i j : Int} (h : Cls n ps i j) : (0 ≤ i ∧ i < n) ∧ (0 ≤ j ∧ j < n) := by
  induction h with
  | refl h0 h1 => exact ⟨⟨h0, h1⟩, h0, h1⟩
  | pair _ h0 h1 h2 h3 => exact ⟨⟨h0, h1⟩, h2, h3⟩
  | symm _ ih => exact ⟨ih.2, ih.1⟩
  | trans _ _ ih1 ih2 => exact ⟨ih1.1, ih2.2⟩
theorem Cls.mono {n : Int} {ps qs : List (Int × Int)} (hs : ∀ p, p ∈ ps → p ∈ qs) {i j : Int} (h : Cls n ps i j) : Cls n qs i j := by
  induction h with
  | refl h0 h1 => exact .refl h0 h1
  | pair h h0 h1 h2 h3 => exact .pair (hs _ h) h0 h1 h2 h3
  | symm _ ih => exact .symm ih
  | trans _ _ ih1 ih2 => exact .trans ih1 ih2
/-- The forest that stands for pairs. -/
structure Stands (up : List Int) (n : Int) (ps : List (Int × Int)) : Prop where
  ok : Ok up
  len : (up.length : Int) = n
  cls : ∀ i j, Cls n ps i j ↔ (0 ≤ i ∧ i < n) ∧ (0 ≤ j ∧ j < n) ∧ Same up i j
theorem Stands.join {up : List Int} {n : Int} {ps : List (Int × Int)} (h : Stands up n ps) {a b ra rb : Int} (ha : 0 ≤ a ∧ a < n) (hb : 0 ≤ b ∧ b < n) (hra : Root up a ra) (hrb : Root up b rb) :
    Stands (up.set ra.toNat rb) n (ps ++ [(a, b)]) ∧ Stands (up.set rb.toNat ra) n (ps ++ [(a, b)]) := by
  have hl := h.len
  have gen : ∀ (x y rx ry : Int), 0 ≤ x ∧ x < n → 0 ≤ y ∧ y < n → Root up x rx → Root up y ry → (∀ i j, Cls n (ps ++ [(a, b)]) i j ↔ Cls n (ps ++ [(x, y)]) i j) → Stands (up.set rx.toNat ry) n (ps ++ [(a, b)]) := by
    intro x y rx ry hx hy hrx hry heq
    have bx := h.ok.bd hrx hx.1 (by omega)
    have by' := h.ok.bd hry hy.1 (by omega)
    have hok := h.ok.set bx by' hrx.root hry.root
    refine ⟨hok, by rw [List.length_set]; exact hl, fun i j => ?_⟩
    rw [heq]
    constructor
    · intro hc
      refine ⟨hc.bd.1, hc.bd.2, ?_⟩
      induction hc with
      | @refl i h0 h1 =>
        obtain ⟨r, hr⟩ := (hok i h0 (by rw [List.length_set]; omega)).2
        exact ⟨r, hr, hr⟩
      | @pair i j hp h0 h1 h2 h3 =>
        rcases List.mem_append.1 hp with hp | hp
        · obtain ⟨r, r1, r2⟩ := ((h.cls i j).1 (.pair hp h0 h1 h2 h3)).2.2
          by_cases e : r = rx
          · exact ⟨ry, set_same h.ok bx by' hrx.root hry.root r1 h0 (by omega) e, set_same h.ok bx by' hrx.root hry.root r2 h2 (by omega) e⟩
          · exact ⟨r, set_other h.ok bx hrx.root r1 h0 (by omega) e, set_other h.ok bx hrx.root r2 h2 (by omega) e⟩
        · have : (i, j) = (x, y) := by simpa using hp
          obtain ⟨rfl, rfl⟩ := Prod.mk.inj this
          refine ⟨ry, set_same h.ok bx by' hrx.root hry.root hrx h0 (by omega) rfl, ?_⟩
          by_cases e : ry = rx
          · exact set_same h.ok bx by' hrx.root hry.root hry h2 (by omega) e
          · exact set_other h.ok bx hrx.root hry h2 (by omega) e
      | symm _ ih => obtain ⟨r, r1, r2⟩ := ih; exact ⟨r, r2, r1⟩
      | trans _ _ ih1 ih2 =>
        obtain ⟨r, r1, r2⟩ := ih1
        obtain ⟨s, s1, s2⟩ := ih2
        obtain rfl := r2.uniq s1
        exact ⟨r, r1, s2⟩
    · rintro ⟨hi, hj, s, s1, s2⟩
      have old : ∀ i, 0 ≤ i ∧ i < n → Root (up.set rx.toNat ry) i s → ∃ r, Root up i r ∧ (r = rx ∧ s = ry ∨ r ≠ rx ∧ s = r) := by
        intro i hi hs
        obtain ⟨r, hr⟩ := (h.ok i hi.1 (by omega)).2
        refine ⟨r, hr, ?_⟩
        by_cases e : r = rx
        · exact .inl ⟨e, hs.uniq (set_same h.ok bx by' hrx.root hry.root hr hi.1 (by omega) e)⟩
        · exact .inr ⟨e, hs.uniq (set_other h.ok bx hrx.root hr hi.1 (by omega) e)⟩
      have up' : ∀ {i j}, Cls n ps i j → Cls n (ps ++ [(x, y)]) i j := fun hc => hc.mono (fun p hp => List.mem_append_left _ hp)
      have hxy : Cls n (ps ++ [(x, y)]) x y := .pair (by simp) hx.1 hx.2 hy.1 hy.2
      obtain ⟨r1, q1, c1⟩ := old i hi s1
      obtain ⟨r2, q2, c2⟩ := old j hj s2
      have same : ∀ {u v r}, 0 ≤ u ∧ u < n → 0 ≤ v ∧ v < n → Root up u r → Root up v r → Cls n (ps ++ [(x, y)]) u v := fun hu hv a1 a2 => up' ((h.cls _ _).2 ⟨hu, hv, _, a1, a2⟩)
      rcases c1 with ⟨e1, f1⟩ | ⟨e1, f1⟩
      · subst e1
        rcases c2 with ⟨e2, f2⟩ | ⟨e2, f2⟩
        · subst e2
          exact same hi hj q1 q2
        · have : r2 = ry := by rw [← f2]; exact f1
          subst this
          exact (same hi hx q1 hrx).trans (hxy.trans (same hy hj hry q2))
      · rcases c2 with ⟨e2, f2⟩ | ⟨e2, f2⟩
        · subst e2
          have : r1 = ry := by rw [← f1]; exact f2
          subst this
          exact (same hi hy q1 hry).trans (hxy.symm.trans (same hx hj hrx q2))
        · have : r1 = r2 := by rw [← f1]; exact f2
          subst this
          exact same hi hj q1 q2
  refine ⟨gen a b ra rb ha hb hra hrb (fun _ _ => Iff.rfl), gen b a rb ra hb ha hrb hra (fun i j => ?_)⟩
  have swap : ∀ {u v : Int} {i j : Int}, Cls n (ps ++ [(u, v)]) i j → Cls n (ps ++ [(v, u)]) i j := by
    intro u v i j hc
    induction hc with
    | refl h0 h1 => exact .refl h0 h1
    | @pair i j hp h0 h1 h2 h3 =>
      rcases List.mem_append.1 hp with hp | hp
      · exact .pair (List.mem_append_left _ hp) h0 h1 h2 h3
      · have : (i, j) = (u, v) := by simpa using hp
        obtain ⟨rfl, rfl⟩ := Prod.mk.inj this
        exact .symm (.pair (by simp) h2 h3 h0 h1)
    | symm _ ih => exact .symm ih
    | trans _ _ ih1 ih2 => exact .trans ih1 ih2
  exact ⟨swap, swap⟩
/-- The numbers from 0 on, each for itself. -/
def alone (n : Nat) : List Int := (List.range n).map fun (i : Nat) => (i : Int)
theorem alone_P (n : Nat) (i : Int) (h0 : 0 ≤ i) (h1 : i < n) : P (alone n) i = i := by
  unfold P alone
  rw [List.getD_eq_getElem?_getD, List.getElem?_map, List.getElem?_range (by omega)]
  simp
  omega
theorem alone_stands (n : Nat) : Stands (alone n) n [] := by
  have hlen : (alone n).length = n := by simp [alone]
  have hok : Ok (alone n) := by
    intro i h0 h1
    rw [hlen] at h1 ⊢
    have := alone_P n i h0 h1
    exact ⟨by omega, i, .here this⟩
  refine ⟨hok, by rw [hlen], fun i j => ?_⟩
  constructor
  · intro hc
    refine ⟨hc.bd.1, hc.bd.2, ?_⟩
    have : i = j := by
      induction hc with
      | refl _ _ => rfl
      | pair h _ _ _ _ => cases h
      | symm _ ih => exact ih.symm
      | trans _ _ ih1 ih2 => exact ih1.trans ih2
    subst this
    exact ⟨i, .here (alone_P n i hc.bd.1.1 hc.bd.1.2), .here (alone_P n i hc.bd.1.1 hc.bd.1.2)⟩
  · rintro ⟨hi, hj, r, r1, r2⟩
    have e1 := r1.uniq (.here (alone_P n i hi.1 hi.2))
    have e2 := r2.uniq (.here (alone_P n j hj.1 hj.2))
    have : i = j := by rw [← e1, ← e2]
    subst this
    exact .refl hi.1 hi.2
end Go.Proofs.Ytolmicnapemljaa.UF
