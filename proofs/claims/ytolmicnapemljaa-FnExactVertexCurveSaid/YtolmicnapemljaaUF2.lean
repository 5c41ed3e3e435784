/- Forests and the number of their classes: two forests for the same classes have as many roots, and classes of the same sizes; plain Lean; no condition but those named. -/
import Derived.Test.YtolmicnapemljaaUF
namespace Go.Proofs.Ytolmicnapemljaa.UF
set_option linter.unusedVariables false
/-- The numbers below n that point to themselves. -/
def roots (up : List Int) : List Nat := (List.range up.length).filter fun k => decide (P up (k : Int) = (k : Int))
theorem roots_nodup (up : List Int) : (roots up).Nodup := List.Pairwise.filter _ List.nodup_range
theorem mem_roots {up : List Int} {k : Nat} : k ∈ roots up ↔ k < up.length ∧ P up (k : Int) = (k : Int) := by
  unfold roots
  rw [List.mem_filter, List.mem_range]
  simp
/-- The root of a number's class. -/
noncomputable def rt (up : List Int) (i : Int) : Int := by
  classical
  exact if h : ∃ r, Root up i r then h.choose else i
theorem rt_of {up : List Int} {i r : Int} (h : Root up i r) : rt up i = r := by
  have hx : ∃ r, Root up i r := ⟨r, h⟩
  unfold rt
  rw [dif_pos hx]
  exact hx.choose_spec.uniq h
theorem Ok.rt {up : List Int} (h : Ok up) {i : Int} (h0 : 0 ≤ i) (h1 : i < up.length) : Root up i (UF.rt up i) := by
  obtain ⟨r, hr⟩ := (h i h0 h1).2
  rw [rt_of hr]
  exact hr
theorem Ok.rt_mem {up : List Int} (h : Ok up) {i : Int} (h0 : 0 ≤ i) (h1 : i < up.length) : (UF.rt up i).toNat ∈ roots up ∧ ((UF.rt up i).toNat : Int) = UF.rt up i := by
  have hr := h.rt h0 h1
  have hb := h.bd hr h0 h1
  have e : ((UF.rt up i).toNat : Int) = UF.rt up i := by omega
  exact ⟨mem_roots.2 ⟨by omega, by rw [e]; exact hr.root⟩, e⟩
theorem map_nodup {α β : Type} (f : α → β) : ∀ {l : List α}, l.Nodup → (∀ a b, a ∈ l → b ∈ l → f a = f b → a = b) → (l.map f).Nodup
  | [], _, _ => List.nodup_nil
  | x :: t, h, hf => by
    have h' := List.nodup_cons.1 h
    rw [List.map_cons, List.nodup_cons]
    refine ⟨fun hc => ?_, map_nodup f h'.2 (fun a b ha hb => hf a b (List.mem_cons_of_mem _ ha) (List.mem_cons_of_mem _ hb))⟩
    obtain ⟨y, hy, e⟩ := List.mem_map.1 hc
    have := hf y x (List.mem_cons_of_mem _ hy) List.mem_cons_self e
    subst this
    exact h'.1 hy
/-- Where a map of numbers parts classes, the second forest has at least as many roots. -/
theorem roots_map {u1 u2 : List Int} {n1 n2 : Int} {p1 p2 : List (Int × Int)} (h1 : Stands u1 n1 p1) (h2 : Stands u2 n2 p2) (f : Int → Int) (hf : ∀ i, 0 ≤ i → i < n1 → 0 ≤ f i ∧ f i < n2)
    (hc : ∀ i j, 0 ≤ i → i < n1 → 0 ≤ j → j < n1 → Cls n2 p2 (f i) (f j) → Cls n1 p1 i j) :
    ((roots u1).map fun (r : Nat) => (rt u2 (f (r : Int))).toNat).Nodup ∧ ∀ x, x ∈ (roots u1).map (fun (r : Nat) => (rt u2 (f (r : Int))).toNat) → x ∈ roots u2 := by
  have l1 := h1.len
  have l2 := h2.len
  have bd : ∀ a, a ∈ roots u1 → 0 ≤ (a : Int) ∧ (a : Int) < n1 := by
    intro a ha
    have := (mem_roots.1 ha).1
    omega
  refine ⟨map_nodup _ (roots_nodup u1) ?_, ?_⟩
  · intro a b ha hb e
    have ba := bd a ha
    have bb := bd b hb
    have fa := hf a ba.1 ba.2
    have fb := hf b bb.1 bb.2
    have ra := h2.ok.rt fa.1 (by omega)
    have rb := h2.ok.rt fb.1 (by omega)
    have ea := (h2.ok.rt_mem fa.1 (by omega)).2
    have eb := (h2.ok.rt_mem fb.1 (by omega)).2
    have e' : rt u2 (f (a : Int)) = rt u2 (f (b : Int)) := by
      rw [← ea, ← eb]
      exact congrArg _ e
    have c2 : Cls n2 p2 (f a) (f b) := (h2.cls _ _).2 ⟨fa, fb, _, ra, by rw [e']; exact rb⟩
    obtain ⟨_, _, s, s1, s2⟩ := (h1.cls _ _).1 (hc a b ba.1 ba.2 bb.1 bb.2 c2)
    have q1 := s1.uniq (.here (mem_roots.1 ha).2)
    have q2 := s2.uniq (.here (mem_roots.1 hb).2)
    omega
  · intro x hx
    obtain ⟨a, ha, rfl⟩ := List.mem_map.1 hx
    have ba := bd a ha
    have fa := hf a ba.1 ba.2
    exact (h2.ok.rt_mem fa.1 (by omega)).1
theorem roots_le {u1 u2 : List Int} {n1 n2 : Int} {p1 p2 : List (Int × Int)} (h1 : Stands u1 n1 p1) (h2 : Stands u2 n2 p2) (f : Int → Int) (hf : ∀ i, 0 ≤ i → i < n1 → 0 ≤ f i ∧ f i < n2)
    (hc : ∀ i j, 0 ≤ i → i < n1 → 0 ≤ j → j < n1 → Cls n2 p2 (f i) (f j) → Cls n1 p1 i j) : (roots u1).length ≤ (roots u2).length := by
  have h := roots_map h1 h2 f hf hc
  have := List.Nodup.length_le_of_subset h.1 h.2
  rwa [List.length_map] at this
theorem roots_perm {u1 u2 : List Int} {n : Int} {p1 p2 : List (Int × Int)} (h1 : Stands u1 n p1) (h2 : Stands u2 n p2) (hc : ∀ i j, Cls n p1 i j ↔ Cls n p2 i j) :
    List.Perm ((roots u1).map fun (r : Nat) => (rt u2 (r : Int)).toNat) (roots u2) := by
  have h := roots_map h1 h2 (fun i => i) (fun i a b => ⟨a, b⟩) (fun i j _ _ _ _ c => (hc i j).2 c)
  have l1 := h1.len
  have l2 := h2.len
  refine (List.perm_ext_iff_of_nodup h.1 (roots_nodup u2)).2 fun x => ⟨h.2 x, fun hx => ?_⟩
  have hb := (mem_roots.1 hx).1
  have m1 := h1.ok.rt_mem (i := (x : Int)) (by omega) (by omega)
  have r1 := h1.ok.rt (i := (x : Int)) (by omega) (by omega)
  have b1 := h1.ok.bd r1 (by omega) (by omega)
  refine List.mem_map.2 ⟨_, m1.1, ?_⟩
  rw [m1.2]
  have c1 : Cls n p1 (x : Int) (rt u1 (x : Int)) := (h1.cls _ _).2 ⟨by omega, by omega, _, r1, .here r1.root⟩
  obtain ⟨_, _, s, s1, s2⟩ := (h2.cls _ _).1 ((hc _ _).1 c1)
  have q1 := s1.uniq (.here (mem_roots.1 hx).2)
  rw [rt_of s2]
  omega
/-- How many numbers have this root. -/
noncomputable def csize (up : List Int) (r : Int) : Nat := ((List.range up.length).filter fun (k : Nat) => decide (rt up (k : Int) = r)).length
theorem csize_eq {u1 u2 : List Int} {n : Int} {p1 p2 : List (Int × Int)} (h1 : Stands u1 n p1) (h2 : Stands u2 n p2) (hc : ∀ i j, Cls n p1 i j ↔ Cls n p2 i j) {r : Nat} (hr : r ∈ roots u1) :
    csize u2 (rt u2 (r : Int)) = csize u1 (r : Int) := by
  have l1 := h1.len
  have l2 := h2.len
  have hb := mem_roots.1 hr
  unfold csize
  have el : u2.length = u1.length := by omega
  rw [el]
  congr 1
  apply List.filter_congr
  intro k hk
  have hk' := List.mem_range.1 hk
  have rk1 := h1.ok.rt (i := (k : Int)) (by omega) (by omega)
  have rk2 := h2.ok.rt (i := (k : Int)) (by omega) (by omega)
  have rr2 := h2.ok.rt (i := (r : Int)) (by omega) (by omega)
  apply decide_eq_decide.2
  constructor
  · intro e
    have c2 : Cls n p2 (k : Int) (r : Int) := (h2.cls _ _).2 ⟨by omega, by omega, _, by rw [← e]; exact rk2, rr2⟩
    obtain ⟨_, _, s, s1, s2⟩ := (h1.cls _ _).1 ((hc _ _).2 c2)
    rw [rt_of s1]
    exact (s2.uniq (.here hb.2))
  · intro e
    have c1 : Cls n p1 (k : Int) (r : Int) := (h1.cls _ _).2 ⟨by omega, by omega, _, rk1, by rw [e]; exact .here hb.2⟩
    obtain ⟨_, _, s, s1, s2⟩ := (h2.cls _ _).1 ((hc _ _).1 c1)
    rw [rt_of s1, rt_of s2]
/-- The sizes of the classes are the same, but for their order. -/
theorem sizes_perm {u1 u2 : List Int} {n : Int} {p1 p2 : List (Int × Int)} (h1 : Stands u1 n p1) (h2 : Stands u2 n p2) (hc : ∀ i j, Cls n p1 i j ↔ Cls n p2 i j) :
    List.Perm ((roots u1).map fun (r : Nat) => (csize u1 (r : Int) : Int)) ((roots u2).map fun (r : Nat) => (csize u2 (r : Int) : Int)) := by
  have h := (roots_perm h1 h2 hc).map fun (r : Nat) => (csize u2 (r : Int) : Int)
  rw [List.map_map] at h
  refine List.Perm.trans (List.Perm.of_eq ?_) h
  apply List.map_congr_left
  intro r hr
  have l1 := h1.len
  have l2 := h2.len
  have hb := (mem_roots.1 hr).1
  have e := (h2.ok.rt_mem (i := (r : Int)) (by omega) (by omega)).2
  show _ = (csize u2 _ : Int)
  rw [e, csize_eq h1 h2 hc hr]
/-- A number put behind the last one that is not greater. -/
def ins (l : List Int) (x : Int) : List Int := match l with
  | [] => [x]
  | y :: t => if y ≤ x then y :: ins t x else x :: y :: t
theorem ins_perm (x : Int) : ∀ l, List.Perm (ins l x) (x :: l)
  | [] => List.Perm.refl _
  | y :: t => by
    unfold ins
    split
    · exact ((ins_perm x t).cons y).trans (List.Perm.swap x y t)
    · exact List.Perm.refl _
theorem ins_sorted (x : Int) : ∀ l : List Int, l.Pairwise (· ≤ ·) → (ins l x).Pairwise (· ≤ ·)
  | [], _ => List.pairwise_singleton _ _
  | y :: t, h => by
    unfold ins
    have h' := List.pairwise_cons.1 h
    split
    · rename_i hy
      refine List.pairwise_cons.2 ⟨fun z hz => ?_, ins_sorted x t h'.2⟩
      rcases List.mem_cons.1 ((ins_perm x t).mem_iff.1 hz) with e | e
      · rw [e]; exact hy
      · exact h'.1 z e
    · rename_i hy
      refine List.pairwise_cons.2 ⟨fun z hz => ?_, h⟩
      rcases List.mem_cons.1 hz with e | e
      · rw [e]; omega
      · have := h'.1 z e
        omega
def isort (l acc : List Int) : List Int := l.foldl ins acc
theorem isort_perm : ∀ (l acc : List Int), List.Perm (isort l acc) (l ++ acc)
  | [], _ => List.Perm.refl _
  | x :: t, acc => by
    show List.Perm (isort t (ins acc x)) _
    refine (isort_perm t _).trans ?_
    refine ((ins_perm x acc).append_left t).trans ?_
    rw [List.cons_append]
    exact List.perm_middle
theorem isort_sorted : ∀ (l acc : List Int), acc.Pairwise (· ≤ ·) → (isort l acc).Pairwise (· ≤ ·)
  | [], _, h => h
  | x :: t, acc, h => isort_sorted t _ (ins_sorted x acc h)
/-- Two lists of the same numbers are sorted to one. -/
theorem isort_eq {l m : List Int} (h : List.Perm l m) : isort l [] = isort m [] := by
  have p := ((isort_perm l []).trans (h.append_right [])).trans (isort_perm m []).symm
  exact p.eq_of_pairwise (fun a b _ _ h1 h2 => Int.le_antisymm h1 h2) (isort_sorted l [] List.Pairwise.nil) (isort_sorted m [] List.Pairwise.nil)
/-- Where the place is found from the end. -/
theorem ins_at : ∀ (l : List Int) (x : Int) (at_ : Nat), at_ ≤ l.length → (∀ j, j < at_ → (h : j < l.length) → l[j] ≤ x) → (∀ h : at_ < l.length, x < l[at_]) → l.take at_ ++ (x :: l.drop at_) = ins l x
  | [], x, at_, h, _, _ => by
    simp
    rfl
  | y :: t, x, 0, _, _, h2 => by
    have := h2 (by simp)
    show x :: y :: t = ins (y :: t) x
    unfold ins
    rw [if_neg (by simpa using this)]
  | y :: t, x, at_ + 1, h, h1, h2 => by
    have hy := h1 0 (by omega) (by simp)
    unfold ins
    rw [if_pos (show y ≤ x from by simpa using hy)]
    rw [List.take_succ_cons, List.drop_succ_cons, List.cons_append]
    rw [ins_at t x at_ (by simpa using h) (fun j hj hl => by have := h1 (j + 1) (by omega) (by simpa using hl); simpa using this) (fun hl => by have := h2 (by simpa using hl); simpa using this)]
end Go.Proofs.Ytolmicnapemljaa.UF
