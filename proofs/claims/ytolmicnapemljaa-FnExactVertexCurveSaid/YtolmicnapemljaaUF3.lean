/- Classes that pairs make, carried over by a map of numbers; plain Lean; no condition but those named. -/
import Derived.Test.YtolmicnapemljaaUF2
namespace Go.Proofs.Ytolmicnapemljaa.UF
set_option linter.unusedVariables false
theorem Cls.map {n1 n2 : Int} {p1 p2 : List (Int × Int)} (f : Int → Int) (hf : ∀ i, 0 ≤ i → i < n1 → 0 ≤ f i ∧ f i < n2) (hp : ∀ i j, (i, j) ∈ p1 → 0 ≤ i → i < n1 → 0 ≤ j → j < n1 → Cls n2 p2 (f i) (f j)) {i j : Int} (h : Cls n1 p1 i j) : Cls n2 p2 (f i) (f j) := by
  induction h with
  | refl h0 h1 =>
    have := hf _ h0 h1
    exact .refl this.1 this.2
  | pair h h0 h1 h2 h3 => exact hp _ _ h h0 h1 h2 h3
  | symm _ ih => exact ih.symm
  | trans _ _ ih1 ih2 => exact ih1.trans ih2
theorem Stands.same_iff {up : List Int} {n : Int} {ps : List (Int × Int)} (h : Stands up n ps) {i j : Int} (hi : 0 ≤ i ∧ i < n) (hj : 0 ≤ j ∧ j < n) : rt up i = rt up j ↔ Cls n ps i j := by
  have hl := h.len
  have ri := h.ok.rt hi.1 (by omega)
  have rj := h.ok.rt hj.1 (by omega)
  rw [h.cls]
  constructor
  · intro e
    exact ⟨hi, hj, _, ri, by rw [e]; exact rj⟩
  · rintro ⟨_, _, s, s1, s2⟩
    rw [rt_of s1, rt_of s2]
/-- How long a way to a root can be: as long as the forest. -/
inductive Way (up : List Int) : Nat → Int → Int → Prop
  | here {r : Int} (h : P up r = r) : Way up 0 r r
  | step {k : Nat} {i r : Int} (h : P up i ≠ i) (w : Way up k (P up i) r) : Way up (k + 1) i r
theorem Root.way {up : List Int} {i r : Int} (h : Root up i r) : ∃ k, Way up k i r := by
  induction h with
  | here h => exact ⟨0, .here h⟩
  | step h _ ih =>
    obtain ⟨k, hk⟩ := ih
    exact ⟨k + 1, .step h hk⟩
theorem Way.root {up : List Int} {k : Nat} {i r : Int} (h : Way up k i r) : Root up i r := by
  induction h with
  | here h => exact .here h
  | step h _ ih => exact .step h ih
theorem Way.uniq {up : List Int} {k : Nat} {i r : Int} (h : Way up k i r) : ∀ {m : Nat} {s : Int}, Way up m i s → k = m := by
  induction h with
  | here h =>
    intro m s hs
    cases hs with
    | here _ => rfl
    | step h2 _ => exact absurd h h2
  | step h _ ih =>
    intro m s hs
    cases hs with
    | here h2 => exact absurd h2 h
    | step _ k2 => rw [ih k2]
/-- The numbers on a way. -/
def path (up : List Int) : Nat → Int → List Int
  | 0, i => [i]
  | k + 1, i => i :: path up k (P up i)
theorem path_len (up : List Int) : ∀ k i, (path up k i).length = k + 1
  | 0, _ => rfl
  | k + 1, i => by rw [path, List.length_cons, path_len up k]
theorem Way.nodup {up : List Int} {k : Nat} {i r : Int} (h : Way up k i r) : (path up k i).Nodup ∧ ∀ x, x ∈ path up k i → ∃ m, m ≤ k ∧ Way up m x r := by
  induction h with
  | @here r h =>
    refine ⟨by simp [path], fun x hx => ?_⟩
    have : x = r := by simpa [path] using hx
    subst this
    exact ⟨0, Nat.le_refl _, .here h⟩
  | @step k i r h w ih =>
    refine ⟨?_, fun x hx => ?_⟩
    · rw [path, List.nodup_cons]
      refine ⟨fun hc => ?_, ih.1⟩
      obtain ⟨m, hm, hw⟩ := ih.2 _ hc
      have := hw.uniq (Way.step h w)
      omega
    · rw [path] at hx
      rcases List.mem_cons.1 hx with e | e
      · subst e
        exact ⟨k + 1, Nat.le_refl _, .step h w⟩
      · obtain ⟨m, hm, hw⟩ := ih.2 _ e
        exact ⟨m, by omega, hw⟩
theorem Ok.path_bd {up : List Int} (hok : Ok up) : ∀ (k : Nat) (i : Int), 0 ≤ i → i < up.length → ∀ x, x ∈ path up k i → 0 ≤ x ∧ x < up.length
  | 0, i, h0, h1, x, hx => by
    have : x = i := by simpa [path] using hx
    omega
  | k + 1, i, h0, h1, x, hx => by
    rw [path] at hx
    rcases List.mem_cons.1 hx with e | e
    · omega
    · exact Ok.path_bd hok k _ (hok i h0 h1).1.1 (hok i h0 h1).1.2 x e
theorem Way.short {up : List Int} (hok : Ok up) {k : Nat} {i r : Int} (h : Way up k i r) (h0 : 0 ≤ i) (h1 : i < up.length) : k < up.length := by
  have hb := hok.path_bd k i h0 h1
  have hn := map_nodup (fun (x : Int) => x.toNat) h.nodup.1 (fun a b ha hb' e => by
    have := hb a ha
    have := hb b hb'
    have e' : a.toNat = b.toNat := e
    omega)
  have := List.Nodup.length_le_of_subset (l₂ := List.range up.length) hn (fun x hx => by
    obtain ⟨a, ha, rfl⟩ := List.mem_map.1 hx
    have := hb a ha
    exact List.mem_range.2 (by omega))
  rw [List.length_map, path_len, List.length_range] at this
  omega
/-- Every number has a way to its root that is shorter than the forest. -/
theorem Ok.way {up : List Int} (hok : Ok up) {i : Int} (h0 : 0 ≤ i) (h1 : i < up.length) : ∃ k, k < up.length ∧ Way up k i (UF.rt up i) := by
  obtain ⟨k, hk⟩ := (hok.rt h0 h1).way
  exact ⟨k, hk.short hok h0 h1, hk⟩
end Go.Proofs.Ytolmicnapemljaa.UF
