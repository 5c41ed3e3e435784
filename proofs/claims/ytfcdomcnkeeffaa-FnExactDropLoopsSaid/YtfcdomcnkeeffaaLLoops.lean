/- What the program's and the reference's DropLoops compute; no condition but the number of rounds and the length. -/
import Derived.Test.YtfcdomcnkeeffaaPx23
import Derived.Test.YtfcdomcnkeeffaaPx24
import Derived.Test.YtfcdomcnkeeffaaLDrop
namespace Go.Proofs.Ytfcdomcnkeeffaa.L
open Go.RowKit Go.Proofs.Ytfcdomcnkeeffaa.P Go.Proofs.Ytfcdomcnkeeffaa.Help Go.Proofs.YtfcdomcnkeeffaaW.PrintWords
set_option linter.unusedVariables false
set_option linter.unusedSimpArgs false

theorem cnt_without (w : List Int) (hw : ∀ y ∈ w, 1 ≤ y) (x y : Int) (hx : 1 ≤ x) : cnt (without w x) y = if x = y then 0 else cnt w y := by
  induction w with
  | nil => simp [without, cnt]
  | cons z zs ih =>
    have ih := ih (fun y hy => hw y (List.mem_cons_of_mem _ hy))
    have hz := hw z List.mem_cons_self
    unfold without at ih ⊢
    rw [List.filter_cons]
    by_cases h : z = x
    · rw [if_neg (by simpa using h), ih, cnt]
      by_cases h2 : x = y
      · rw [if_pos h2, if_pos h2]
      · rw [if_neg h2, if_neg h2, if_neg (by omega), Int.zero_add]
    · rw [if_pos (by simpa using h), cnt, ih, cnt]
      by_cases h2 : x = y
      · rw [if_pos h2, if_pos h2, if_neg (by omega)]; rfl
      · rw [if_neg h2, if_neg h2]
theorem without_size (w : List Int) (hw : ∀ y ∈ w, 1 ≤ y) (x : Int) (hx : 1 ≤ x) : ((without w x).length : Int) = w.length - cnt w x := by
  induction w with
  | nil => simp [without, cnt]
  | cons z zs ih =>
    have ih := ih (fun y hy => hw y (List.mem_cons_of_mem _ hy))
    have hz := hw z List.mem_cons_self
    unfold without at ih ⊢
    rw [List.filter_cons]
    by_cases h : z = x
    · rw [if_neg (by simpa using h), cnt, if_pos (by omega), List.length_cons]
      omega
    · rw [if_pos (by simpa using h), cnt, if_neg (by omega), List.length_cons, List.length_cons]
      omega
/-- A crossing word without a letter is a crossing word, if letters are left. -/
theorem cw_without {w : List Int} (h : cw w = true) {x : Int} (hx : x ∈ w) (hl : 2 < w.length) : cw (without w x) = true ∧ (without w x).length + 2 = w.length := by
  obtain ⟨h1, h2⟩ := cw_true h
  have hp := cw_pos h
  have hs := without_size w hp x (hp x hx)
  rw [cw_two h x hx] at hs
  refine ⟨?_, by omega⟩
  have hev : w.length ≠ 3 := by
    intro h3
    match w, h3 with
    | [a, b, c], _ =>
      have ca := cw_two h a (by simp)
      have cb := cw_two h b (by simp)
      have cc := cw_two h c (by simp)
      have pa := hp a (by simp)
      have pb := hp b (by simp)
      have pc := hp c (by simp)
      have ea : (a.natAbs : Int) = a := by omega
      have eb : (b.natAbs : Int) = b := by omega
      have ec : (c.natAbs : Int) = c := by omega
      simp only [cnt, ea, eb, ec] at ca cb cc
      by_cases e1 : a = b
      · subst e1
        by_cases e2 : a = c
        · subst e2
          simp only [if_true] at ca
          omega
        · simp only [if_true, if_neg e2, if_neg (Ne.symm e2)] at ca cc
          omega
      · by_cases e2 : a = c
        · subst e2
          simp only [if_true, if_neg e1, if_neg (Ne.symm e1)] at cb
          omega
        · simp only [if_true, if_neg e1, if_neg e2, if_neg (Ne.symm e1), if_neg (Ne.symm e2)] at ca
          omega
  have hmem : ∀ y, y ∈ without w x → y ∈ w ∧ y ≠ x := fun y hy => by
    unfold without at hy
    rw [List.mem_filter] at hy
    exact ⟨hy.1, of_decide_eq_true hy.2⟩
  unfold cw
  rw [Bool.and_eq_true, Bool.and_eq_true, decide_eq_true_iff, List.all_eq_true]
  refine ⟨⟨?_, by omega⟩, fun y hy => ?_⟩
  · unfold isW
    rw [Bool.and_eq_true, List.all_eq_true, decide_eq_true_iff]
    refine ⟨fun y hy => ?_, by omega⟩
    have := h2 y (hmem y hy).1
    unfold letB
    rw [decide_eq_true_iff]
    omega
  · obtain ⟨m1, m2⟩ := hmem y hy
    rw [decide_eq_true_iff, cnt_without w hp x y (hp x hx), if_neg (fun e => m2 e.symm)]
    exact ⟨hp y m1, cw_two h y m1⟩
/-- Taking loops away, from a place on. -/
def dl : Nat → List Int → Nat → List Int
  | 0, w, _ => w
  | n + 1, w, i => if i < w.length ∧ 2 < w.length then (if w.getD i 0 = w.getD ((i + 1) % w.length) 0 then dl n (without w (w.getD i 0)) 0 else dl n w (i + 1)) else w
theorem tmod_nat (i n : Nat) : (((i : Int) + 1).tmod (n : Int)) = (((i + 1) % n : Nat) : Int) := by
  rw [Int.tmod_eq_emod_of_nonneg (by omega), show ((i : Int) + 1) = ((i + 1 : Nat) : Int) by omega]
  rfl
theorem rdD (w : List Int) (i : Nat) : rd w (i : Int) = w.getD i 0 := rfl
/-- How many rounds are left. -/
def left (w : List Int) (i : Nat) : Nat := (w.length + 1) * (w.length + 1) - i
theorem dl_len : ∀ (n : Nat) (w : List Int) (i : Nat), (dl n w i).length ≤ w.length := by
  intro n
  induction n with
  | zero => intro w i; exact Nat.le_refl _
  | succ n ih =>
    intro w i
    unfold dl
    split
    · split
      · exact Nat.le_trans (ih _ _) (without_len _ _)
      · exact ih _ _
    · exact Nat.le_refl _
theorem step_left {w : List Int} (h : cw w = true) {i : Nat} (hi : i < w.length) (h2 : 2 < w.length) : cw (without w (w.getD i 0)) = true ∧ left (without w (w.getD i 0)) 0 < left w i ∧ (without w (w.getD i 0)).length + 2 = w.length := by
  have hm : w.getD i 0 ∈ w := by
    rw [List.getD_eq_getElem?_getD, List.getElem?_eq_getElem hi]
    exact List.getElem_mem hi
  obtain ⟨h3, h4⟩ := cw_without h hm h2
  refine ⟨h3, ?_, h4⟩
  unfold left
  have e : (without w (w.getD i 0)).length = w.length - 2 := by omega
  rw [e]
  obtain ⟨n, hn⟩ : ∃ n, w.length = n + 2 := ⟨w.length - 2, by omega⟩
  rw [hn] at hi ⊢
  simp only [Nat.add_sub_cancel]
  have : (n + 2 + 1) * (n + 2 + 1) = (n + 1) * (n + 1) + 4 * (n + 1) + 4 := by grind
  omega
theorem spec_loops : ∀ (n k : Nat) (w : List Int) (i : Nat), cw w = true → left w i < n → i ≤ w.length → 2 * n + 100 < k → spec_DropLoops.l0 k w (i : Int) = some (dl n w i) := by
  intro n
  induction n with
  | zero => intro k w i _ h; omega
  | succ n ih =>
    intro k w i hc hl hi hk
    obtain ⟨k, rfl⟩ : ∃ m, k = m + 2 := ⟨k - 2, by omega⟩
    obtain ⟨h1, _⟩ := cw_true hc
    simp only [spec_DropLoops.l0, spec_DropLoops.j1, dl]
    by_cases h : i < w.length
    · rw [if_pos (by omega)]
      by_cases h2 : 2 < w.length
      · rw [if_pos (decide_eq_true (by omega)), if_pos (by omega), if_pos (by omega), if_neg (by omega), if_pos (show i < w.length ∧ 2 < w.length from ⟨h, h2⟩), w_id (by omega) (by omega), tmod_nat]
        have hlt := Nat.mod_lt (i + 1) (show 0 < w.length by omega)
        rw [if_pos (by omega), if_pos (by omega), rdD, rdD]
        by_cases h3 : w.getD i 0 = w.getD ((i + 1) % w.length) 0
        · obtain ⟨s1, s2, s3⟩ := step_left hc h h2
          rw [if_pos h3, if_pos h3, spec_drop w (by omega) _ k (by omega), Option.bind_some]
          exact ih k _ 0 s1 (by omega) (by omega) (by omega)
        · rw [if_neg h3, if_neg h3, show ((i : Int) + 1) = ((i + 1 : Nat) : Int) by omega]
          refine ih k w (i + 1) hc ?_ (by omega) (by omega)
          unfold left at hl ⊢
          have : w.length * 1 ≤ (w.length + 1) * (w.length + 1) := Nat.mul_le_mul (by omega) (by omega)
          omega
      · rw [if_neg (by simp; omega), if_neg (fun h => h2 h.2)]
    · rw [if_neg (by omega), if_neg (by decide), if_neg (fun h' => h h'.1)]
theorem loops_again (k : Nat) (w : List Int) (i : Int) : impl_DropLoops.l1 (k + 3) w true i = impl_DropLoops.l1 k w false 0 := by
  conv => lhs; unfold impl_DropLoops.l1; unfold impl_DropLoops.j2; unfold impl_DropLoops.l0
  simp
theorem loops_stop (k : Nat) (w : List Int) (i : Nat) (h : ¬ (i < w.length ∧ 2 < w.length)) : impl_DropLoops.l1 (k + 3) w false (i : Int) = some w := by
  conv => lhs; unfold impl_DropLoops.l1; unfold impl_DropLoops.j2; unfold impl_DropLoops.l0
  by_cases h1 : i < w.length
  · rw [if_pos (by omega), if_neg (by decide), decide_eq_false (by omega)]
    simp
  · rw [if_neg (by omega)]
    simp
theorem impl_loops : ∀ (n k : Nat) (w : List Int) (i : Nat), cw w = true → left w i < n → i ≤ w.length → 5 * n + 1048600 < k → impl_DropLoops.l1 k w false (i : Int) = some (dl n w i) := by
  intro n
  induction n with
  | zero => intro k w i _ h; omega
  | succ n ih =>
    intro k w i hc hl hi hk
    obtain ⟨h1, _⟩ := cw_true hc
    by_cases h : i < w.length ∧ 2 < w.length
    · obtain ⟨k, rfl⟩ : ∃ m, k = m + 5 := ⟨k - 5, by omega⟩
      conv => lhs; unfold impl_DropLoops.l1; unfold impl_DropLoops.j2
      simp only [dl]
      have hlt := Nat.mod_lt (i + 1) (show 0 < w.length by omega)
      rw [if_pos (by omega), if_neg (by decide), if_pos (decide_eq_true (by omega)), if_pos (by omega), if_pos (by omega), if_neg (by omega), if_pos h, w_id (by omega) (by omega), tmod_nat, if_pos (by omega), if_pos (by omega), rdD, rdD]
      by_cases h3 : w.getD i 0 = w.getD ((i + 1) % w.length) 0
      · obtain ⟨s1, s2, s3⟩ := step_left hc h.1 h.2
        have hm : w.getD i 0 ∈ w := by
          rw [List.getD_eq_getElem?_getD, List.getElem?_eq_getElem h.1]
          exact List.getElem_mem h.1
        have hd : dropR w (w.getD i 0) = (without w (w.getD i 0), true) := by
          unfold dropR
          rw [if_pos ⟨hc, hm, by omega⟩]
        rw [if_pos h3, if_pos h3, impl_dropC w (by omega) _ (k + 3) (by omega), Option.bind_some, hd]
        simp only
        rw [loops_again]
        exact ih k _ 0 s1 (by omega) (by omega) (by omega)
      · rw [if_neg h3, if_neg h3, show ((i : Int) + 1) = ((i + 1 : Nat) : Int) by omega]
        refine ih (k + 3) w (i + 1) hc ?_ (by omega) (by omega)
        unfold left at hl ⊢
        have : w.length * 1 ≤ (w.length + 1) * (w.length + 1) := Nat.mul_le_mul (by omega) (by omega)
        omega
    · obtain ⟨k, rfl⟩ : ∃ m, k = m + 3 := ⟨k - 3, by omega⟩
      rw [loops_stop k w i h]
      simp only [dl]
      rw [if_neg h]
def loopsR (w : List Int) : List Int := if cw w = true then dl 200 w 0 else []
theorem loopsR_len (w : List Int) : (loopsR w).length ≤ w.length := by
  unfold loopsR
  split
  · exact dl_len _ _ _
  · simp
theorem left_le {w : List Int} (h : cw w = true) : left w 0 < 200 := by
  obtain ⟨h1, _⟩ := cw_true h
  unfold left
  have : (w.length + 1) * (w.length + 1) ≤ 13 * 13 := Nat.mul_le_mul (by omega) (by omega)
  omega
theorem spec_loopsF (w : List Int) (hx : w.length ≤ 1048576) (k : Nat) (hk : 1060000 < k) : spec_DropLoops.f k w = some (loopsR w) := by
  unfold spec_DropLoops.f loopsR
  rw [spec_cw w hx k (by omega), Option.bind_some]
  by_cases h : cw w = true
  · rw [if_pos h, if_pos h]
    simp only [Option.bind_some, List.length_nil, List.nil_append]
    rw [if_pos (by omega)]
    exact spec_loops 200 k w 0 h (left_le h) (by omega) (by omega)
  · rw [if_neg h, if_neg h]
theorem impl_copy (w : List Int) (hx : w.length ≤ 1048576) : impl_copyOf.f w = some w := by
  unfold impl_copyOf.f
  simp only [Option.bind_some, List.length_nil, List.nil_append]
  rw [if_pos (by omega)]
theorem impl_loopsF (w : List Int) (hx : w.length ≤ 1048576) (k : Nat) (hk : 1060000 < k) : impl_DropLoops.f k w = some (loopsR w) := by
  unfold impl_DropLoops.f loopsR
  rw [impl_cw w hx k (by omega), Option.bind_some]
  by_cases h : cw w = true
  · rw [if_pos h, if_pos h, impl_copy w hx, Option.bind_some]
    obtain ⟨k, rfl⟩ : ∃ m, k = m + 1 := ⟨k - 1, by omega⟩
    conv => lhs; unfold impl_DropLoops.l0
    rw [if_pos rfl]
    exact impl_loops 200 k w 0 h (left_le h) (by omega) (by omega)
  · rw [if_neg h, if_neg h]
end Go.Proofs.Ytfcdomcnkeeffaa.L
