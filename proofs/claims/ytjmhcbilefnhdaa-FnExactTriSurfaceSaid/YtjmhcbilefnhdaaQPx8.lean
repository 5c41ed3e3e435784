-- By this session's driver (wip/tools/mk.py) of the kit's print program, over several statements at once. Not trusted: Lean checks it.
import Derived.Test.YtjmhcbilefnhdaaQPx0
import Derived.Test.YtjmhcbilefnhdaaQPx7
namespace Go.Proofs.Ytjmhcbilefnhdaa.P
open Go.RowKit Go.Proofs.YtjmhcbilefnhdaaW.PrintWords Go.Proofs.YtjmhcbilefnhdaaW.PrintLast Go.Proofs.YtjmhcbilefnhdaaW.PrintMore
attribute [local go_sem] max2_int min2_int max_two min_two max_three min_three max_four min_four   -- for this text's walks alone
set_option linter.unusedVariables false
set_option linter.unusedSimpArgs false

/-! ### impl_IsTriangulation: function 16 -/
theorem tri_law : Go.Maps.Keyed Try.prog 3 := Go.Maps.int_keyed Try.underlying3
theorem tri_zero (w : World) : (zeroValue 4).run Try.prog w = .ok (.bool false) w := by kernel_rfl
theorem tri_bool_inv {H : Type} {P : Program} {e : TypeId} (he : P.underlying e = some .bool) {v : Value} {z : DataW H × List MemPlace} (h : plainElem P e v = some z) : ∃ x, v = .bool x ∧ z = (.lit (.bool x), []) := by
 unfold plainElem at h
 rw [he] at h
 cases v <;> simp at h
 exact ⟨_, rfl, h.symm⟩

/-- the block B is a map that holds the numbers seen -/
def TriSeen (w : World) (B : Nat) (seen : List Int) : Prop := seen.Nodup ∧ (∀ x ∈ seen, -9 ≤ x ∧ x ≤ 9) ∧ ∃ D : DataW Unit, w.ownsMap Try.prog 3 (plainElem Try.prog 4) B seen.length D ∧ Go.Maps.IsMap D ∧ ∀ x, D.atKey (.int .i64 x) (.lit (.bool false)) = .lit (.bool (decide (x ∈ seen)))

theorem tri_pigeon : ∀ (N : Nat) (l : List Nat), l.Nodup → (∀ x ∈ l, x < N) → l.length ≤ N
 | 0, l, _, h => by
  cases l with
  | nil => simp
  | cons a l => exact absurd (h a (by simp)) (by omega)
 | N + 1, l, hd, h => by
  by_cases hN : N ∈ l
  ·have h1 := tri_pigeon N (l.erase N) (hd.erase N) (fun x hx => by
    have h2 := (hd.mem_erase_iff).1 hx
    have h3 := h x h2.2
    have h4 := h2.1
    omega)
   rw [List.length_erase_of_mem hN] at h1
   omega
  ·have h1 := tri_pigeon N l hd (fun x hx => by
    have h3 := h x hx
    have h4 : x ≠ N := fun e => hN (e ▸ hx)
    omega)
   omega

theorem tri_short {seen : List Int} (hd : seen.Nodup) (hr : ∀ x ∈ seen, -9 ≤ x ∧ x ≤ 9) : seen.length ≤ 19 := by
 have h1 := tri_pigeon 19 (seen.map fun x => (x + 9).toNat) (by
  refine List.pairwise_map.2 (List.Pairwise.imp_of_mem ?_ hd)
  intro a b ha hb hab h
  have := hr a ha
  have := hr b hb
  omega) (by
  intro x hx
  obtain ⟨y, hy, rfl⟩ := List.mem_map.1 hx
  have := hr y hy
  omega)
 simpa using h1

theorem TriSeen.made (w : World) : TriSeen (w.alloc (.map #[] 0)) w.heap.size [] :=
 ⟨List.nodup_nil, fun _ h => by simp at h, .map [], World.ownsMap_made _ _ _ _, Go.Maps.isMap_empty, fun x => by simp [DataW.atKey]⟩

theorem tri_put {seen : List Int} {D : DataW Unit} (hm : Go.Maps.IsMap D) (hD : ∀ x, D.atKey (.int .i64 x) (.lit (.bool false)) = .lit (.bool (decide (x ∈ seen)))) (y x : Int) :
  (D.put (.int .i64 y) (.lit (.bool true))).atKey (.int .i64 x) (.lit (.bool false)) = .lit (.bool (decide (x ∈ y :: seen))) := by
 by_cases h : x = y
 ·subst h
  rw [Go.Maps.atKey_put_same hm (by simp [WideAt.IsKeyLit])]
  simp
 ·rw [Go.Maps.atKey_put_other (by simp [h]), hD x]
  simp [h]

theorem TriSeen.drewN {w : World} {B : Nat} {seen : List Int} (h : TriSeen w B seen) (n : Nat) : TriSeen (World.drewN w n) B seen := by
 induction n generalizing w with
 | zero => exact h
 | succ n ih => exact ih (w := w.drew) ⟨h.1, h.2.1, h.2.2⟩

theorem TriSeen.look {w : World} {B : Nat} {seen : List Int} (h : TriSeen w B seen) {X : Int} (hw : (Lit.int .i64 X).wf = true) : Sem.run Try.prog (Instr.lookup 51 (.map (some B)) (.int .i64 X) false) w = .ok (.bool (decide (X ∈ seen))) w := by
 obtain ⟨_, _, D, hown, hm, hD⟩ := h
 obtain ⟨v, ps, hrun, hat⟩ := hown.lookup tri_law Try.underlying51 (tri_zero w) (plainElem_bool Try.underlying4 false) (Go.Maps.keyOf_int_mk Try.underlying3 hw)
 obtain ⟨c', rfl, hz'⟩ := tri_bool_inv Try.underlying4 hat
 simp only [Prod.mk.injEq] at hz'
 have : c' = decide (X ∈ seen) := by have := hz'.1.symm.trans (hD X); simpa using this
 subst this
 exact hrun

theorem TriSeen.put {w : World} {B : Nat} {seen : List Int} (h : TriSeen w B seen) {X : Int} (hw : (Lit.int .i64 X).wf = true) (hr : -9 ≤ X ∧ X ≤ 9) (hn : X ∉ seen) : ∃ w', Sem.run Try.prog (Instr.mapUpdate 51 (.map (some B)) (.int .i64 X) (.bool true)) w = .ok () w' ∧ TriSeen w' B (X :: seen) ∧ w.grownBy w' (some B) := by
 obtain ⟨h1, h2, D, hown, hm, hD⟩ := h
 have hs := tri_short h1 h2
 obtain ⟨w', hrun, hown', hg⟩ := hown.update tri_law Try.underlying51 (by unfold maxLen; omega) (Go.Maps.keyOf_int_mk Try.underlying3 hw) (plainElem_bool Try.underlying4 true)
 exact ⟨w', hrun, ⟨List.nodup_cons.2 ⟨hn, h1⟩, fun x hx => by
  rcases List.mem_cons.1 hx with rfl | hx
  ·exact hr
  ·exact h2 x hx, _, hown', hm.put _ _, tri_put hm hD X⟩, hg⟩

theorem tri_neg {N : Int} (h : N ≤ 9 ∧ 3 ≤ N) : wrap64 (-N) = -N := by
 unfold wrap64; omega

theorem tri_within {a b c : Int} (h : impl_within.f a b c = some true) : b ≤ a ∧ a ≤ c := by
 unfold impl_within.f at h
 split at h
 ·exact ⟨by omega, by simpa using h⟩
 ·simp at h

mutual
def impl_IsTriangulation.j0 : Nat → List (List Int) → Int → Bool → Option (Bool)
 | 0, _, _, _ => none
 | k + 1, x0, x3, x20 => if x20 = true then (some false) else (impl_IsTriangulation.l0 k x0 x3 [] 0)
def impl_IsTriangulation.l0 : Nat → List (List Int) → Int → List Int → Int → Option (Bool)
 | 0, _, _, _, _ => none
 | k + 1, x0, x3, x4, x5 => if x5 < (x0.length : Int) then (if 0 ≤ x5 then (if ((rd_L1 x0 x5).length : Int) = 3 then (impl_IsTriangulation.l1 k x0 x3 x4 x5 0) else (some false)) else (none)) else (some true)
def impl_IsTriangulation.l1 : Nat → List (List Int) → Int → List Int → Int → Int → Option (Bool)
 | 0, _, _, _, _, _ => none
 | k + 1, x0, x3, x4, x5, x6 => if x6 < ((rd_L1 x0 x5).length : Int) then (if 0 ≤ x6 then (if (rd (rd_L1 x0 x5) x6) = 0 then (some false) else ((impl_within.f (rd (rd_L1 x0 x5) x6) (wrap64 (-x3)) x3).bind fun t224 => (if t224 = true then (if (rd (rd_L1 x0 x5) x6) ∈ x4 then (some false) else (impl_IsTriangulation.l1 k x0 x3 ((rd (rd_L1 x0 x5) x6) :: x4) x5 (wrap64 (x6 + 1)))) else (some false)))) else (none)) else (impl_IsTriangulation.l0 k x0 x3 x4 (wrap64 (x5 + 1)))
end
def impl_IsTriangulation.f (k : Nat) (l0 : List (List Int)) : Option (Bool) := if ((l0.length : Int) % 2) = 0 then ((impl_within.f (wrap64 (Int.tdiv (wrap64 (3 * (l0.length : Int))) 2)) 3 9).bind fun t217 => (impl_IsTriangulation.j0 k l0 (wrap64 (Int.tdiv (wrap64 (3 * (l0.length : Int))) 2)) (!t217))) else (impl_IsTriangulation.j0 k l0 (wrap64 (Int.tdiv (wrap64 (3 * (l0.length : Int))) 2)) true)
theorem impl_IsTriangulation.mono_l : ∀ k, (∀ y0 y1 y2, LeO (impl_IsTriangulation.j0 k y0 y1 y2) (impl_IsTriangulation.j0 (k + 1) y0 y1 y2)) ∧ (∀ y0 y1 y2 y3, LeO (impl_IsTriangulation.l0 k y0 y1 y2 y3) (impl_IsTriangulation.l0 (k + 1) y0 y1 y2 y3)) ∧ (∀ y0 y1 y2 y3 y4, LeO (impl_IsTriangulation.l1 k y0 y1 y2 y3 y4) (impl_IsTriangulation.l1 (k + 1) y0 y1 y2 y3 y4))
 | 0 => ⟨fun _ _ _ r h => by simp [impl_IsTriangulation.j0] at h, fun _ _ _ _ r h => by simp [impl_IsTriangulation.l0] at h, fun _ _ _ _ _ r h => by simp [impl_IsTriangulation.l1] at h⟩
 | k + 1 => by
  obtain ⟨ih0, ih1, ih2⟩ := impl_IsTriangulation.mono_l k
  refine ⟨?_, ?_, ?_⟩
  ·intro y0 y1 y2
   unfold impl_IsTriangulation.j0
   repeat' first
   | (with_reducible exact ih0 _ _ _)
   | (with_reducible exact ih1 _ _ _ _)
   | (with_reducible exact ih2 _ _ _ _ _)
   | (with_reducible exact LeO.refl _)
   | (with_reducible exact LeO.none _)
   | (with_reducible refine LeO.ite ?_ ?_)
   | (with_reducible refine LeO.bind ?_ (fun _ => ?_))
  ·intro y0 y1 y2 y3
   unfold impl_IsTriangulation.l0
   repeat' first
   | (with_reducible exact ih0 _ _ _)
   | (with_reducible exact ih1 _ _ _ _)
   | (with_reducible exact ih2 _ _ _ _ _)
   | (with_reducible exact LeO.refl _)
   | (with_reducible exact LeO.none _)
   | (with_reducible refine LeO.ite ?_ ?_)
   | (with_reducible refine LeO.bind ?_ (fun _ => ?_))
  ·intro y0 y1 y2 y3 y4
   unfold impl_IsTriangulation.l1
   repeat' first
   | (with_reducible exact ih0 _ _ _)
   | (with_reducible exact ih1 _ _ _ _)
   | (with_reducible exact ih2 _ _ _ _ _)
   | (with_reducible exact LeO.refl _)
   | (with_reducible exact LeO.none _)
   | (with_reducible refine LeO.ite ?_ ?_)
   | (with_reducible refine LeO.bind ?_ (fun _ => ?_))
theorem impl_IsTriangulation.mono : ∀ a0 k, LeO (impl_IsTriangulation.f k a0) (impl_IsTriangulation.f (k + 1) a0) := by
 intro a0 k
 obtain ⟨ih0, ih1, ih2⟩ := impl_IsTriangulation.mono_l k
 unfold impl_IsTriangulation.f
 repeat' first
   | (with_reducible exact ih0 _ _ _)
   | (with_reducible exact LeO.refl _)
   | (with_reducible exact LeO.none _)
   | (with_reducible refine LeO.ite ?_ ?_)
   | (with_reducible refine LeO.bind ?_ (fun _ => ?_))

set_option maxHeartbeats 8000000 in
set_option maxRecDepth 100000 in
theorem impl_IsTriangulation.calls (k : Nat) (A0 : Option Addr) (c0 : Nat) (l0 : List (List Int)) (r : Bool) (w : World) (hr0 : Kd.C (Kd.slice 3 (Kd.int .i64)) w A0 l0.length l0) (hc0 : l0.length ≤ c0) (h : impl_IsTriangulation.f k l0 = some r) :
  Calls Try.prog 16 #[.slice A0 l0.length c0] w fun e w' => e = .returned (.bool r) ∧ Below w.heap.size w w' := by
 have HR0 := Az.mk hr0
 have HC0 := Az.mk hc0
 clear hr0 hc0
 have HB := Az.mk (Below.refl w.heap.size w)
 have H : (if ((l0.length : Int) % 2) = 0 then ((impl_within.f (wrap64 (Int.tdiv (wrap64 (3 * (l0.length : Int))) 2)) 3 9).bind fun t217 => (impl_IsTriangulation.j0 k l0 (wrap64 (Int.tdiv (wrap64 (3 * (l0.length : Int))) 2)) (!t217))) else (impl_IsTriangulation.j0 k l0 (wrap64 (Int.tdiv (wrap64 (3 * (l0.length : Int))) 2)) true)) = some r := h
 clear h
 have HC2 := Az.mk H
 clear H
 have hmm := @run_makeMap Try.prog
 go_enter Try.func16, Try.ntmps16
 go_upto_region 2 with (fail)
 go_cut [21] (fun v20 wc => ∃ (kq : Nat) (x20_1 : Bool), v20 = .bool x20_1 ∧ Az (impl_IsTriangulation.j0 kq l0 (wrap64 (Int.tdiv (wrap64 (3 * (l0.length : Int))) 2)) x20_1 = some r) ∧ Az (x20_1 = false → wrap64 (Int.tdiv (wrap64 (3 * (l0.length : Int))) 2) ≤ 9 ∧ 3 ≤ wrap64 (Int.tdiv (wrap64 (3 * (l0.length : Int))) 2)) ∧ Az (Below w.heap.size w wc))
 case first =>
  have H := HC2.out
  clear HC2
  by_cases c3 : ((l0.length : Int) % 2) = 0
  ·rw [if_pos c3] at H
   have c3b0 : (((l0.length : Int) % 2) == 0) = true := beq_iff_eq.mpr c3
   have c3b1 : (((l0.length : Int) % 2) != 0) = false := bne_eq_false_iff_eq.mpr c3
   clear c3
   (first | rw [c3b0] | (simp only [i64_w, i32_w]; rw [c3b0]) | skip)
   replace H := Option.bind_eq_some_iff.mp H
   obtain ⟨t217, A40, H⟩ := H
   replace H : (impl_IsTriangulation.j0 k l0 (wrap64 (Int.tdiv (wrap64 (3 * (l0.length : Int))) 2)) (!t217)) = some r := H
   have A4 := Az.mk A40
   clear A40
   have H' := Az.mk H
   clear H
   go_wp2_with (first | (go_at_call 27; (with_reducible refine (impl_within.calls (wrap64 (Int.tdiv (wrap64 (3 * (l0.length : Int))) 2)) 3 9 t217 _ A4.out).mono ?_); rintro e w' ⟨rfl, ⟨nd, rfl⟩⟩))
   go_meet
   case rel => exact ⟨_, (!t217), (by first | rfl | (simp; done) | (simp [*]; done)), H', ⟨fun h => by
    have e : t217 = true := by simpa using h
    subst e
    exact (tri_within A4.out).symm⟩, ⟨by repeat (first | (with_reducible first | exact HB.out | apply bwA | apply pbN | apply bwD) | exact HB.out)⟩⟩
  ·rw [if_neg c3] at H
   have c3b0 : (((l0.length : Int) % 2) == 0) = false := beq_eq_false_iff_ne.mpr c3
   have c3b1 : (((l0.length : Int) % 2) != 0) = true := bne_iff_ne.mpr c3
   (first | rw [c3b0] | (simp only [i64_w, i32_w]; rw [c3b0]) | skip)
   have H' := Az.mk H
   clear H
   go_wp2
   go_meet
   case rel => exact ⟨_, (true), (by first | rfl | (simp; done) | (simp [*]; done)), H', ⟨fun h => by simp at h⟩, ⟨by repeat (first | (with_reducible first | exact HB.out | apply bwA | apply pbN | apply bwD) | exact HB.out)⟩⟩
 case rest =>
  clear HC2
  try clear c2
  try clear p2
  try clear c3
  try clear c3b0
  try clear c3b1
  obtain ⟨kq, x20_1, rfl, HA, HN, HB⟩ := hcut
  cases kq with
  | zero => exact absurd HA.out (by simp [impl_IsTriangulation.j0])
  | succ kj1 =>
   have H := HA.out
   clear HA
   simp only [impl_IsTriangulation.j0] at H
   by_cases c5 : x20_1 = true
   ·subst c5
    have H1 : (some false) = some r := by rw [if_pos rfl] at H; exact H
    clear H
    have H := H1
    clear H1
    obtain rfl := Option.some.inj H
    go_wp2
    go_ret
    exact ⟨by first | rfl | (simp [eWn, eWs] <;> rfl) | (simp [*, eWn, eWs] <;> rfl), by repeat (first | (with_reducible first | exact HB.out | apply bwA | apply pbN | apply bwD) | exact HB.out)⟩
   ·replace c5 := Bool.eq_false_iff.mpr c5
    subst c5
    have H' : Az (impl_IsTriangulation.l0 kj1 l0 (wrap64 (Int.tdiv (wrap64 (3 * (l0.length : Int))) 2)) [] 0 = some r) := ⟨by rw [if_neg (show ¬ (false = true) by decide)] at H; exact H⟩
    clear H
    have HN9 := Az.mk (HN.out rfl)
    clear HN
    go_wp2
    go_loopg [25] kj1 (fun kq v5 w' => ∃ (x4_2 : List Int) (x5_2 : Int), v5 = .int .i64 x5_2 ∧ Az (impl_IsTriangulation.l0 kq l0 (wrap64 (Int.tdiv (wrap64 (3 * (l0.length : Int))) 2)) x4_2 x5_2 = some r) ∧ Az (kq ≤ kj1) ∧ Az (TriSeen w' wc.heap.size x4_2) ∧ Az (Below w.heap.size w w'))
    case atStart => exact ⟨([]), (0), (by first | rfl | (simp; done) | (simp [*]; done)), H', ⟨Nat.le_refl _⟩, ⟨TriSeen.made wc⟩, ⟨by repeat (first | (with_reducible first | exact HB.out | apply bwA | apply pbN | apply bwD) | exact HB.out)⟩⟩
    case round =>
     clear H'
     have HBC := Az.mk HB.out.size
     clear HB
     obtain ⟨x4_2, x5_2, rfl, HA, HK2, HS, HB⟩ := hrel
     cases gk with
     | zero => exact absurd HA.out (by simp [impl_IsTriangulation.l0])
     | succ k2 =>
      have H := HA.out
      clear HA
      simp only [impl_IsTriangulation.l0] at H
      by_cases c11 : x5_2 < (l0.length : Int)
      ·rw [if_pos c11] at H
       have c11b0 : decide (x5_2 < (l0.length : Int)) = true := decide_eq_true c11
       clear c11
       by_cases c12 : 0 ≤ x5_2
       ·rw [if_pos c12] at H
        have c12b0 : decide (0 ≤ x5_2) = true := decide_eq_true c12
        clear c12
        have p221 : 0 ≤ (x5_2 : Int) := of_decide_eq_true (by first | (with_reducible assumption) | assumption)
        have q221 : x5_2 < (l0.length : Int) := of_decide_eq_true (by first | (with_reducible assumption) | assumption)
        obtain ⟨ad221, A221_0, c221_0, e221, hx221_0, hl221_0, hi221_0⟩ := at_L1 HR0.out x5_2 p221 q221
        cases e221
        replace hx221_0 := (HB.out.cell (World.block_lt_of_cell? w _ hx221_0)).trans hx221_0
        have HR221_0 := Az.mk hi221_0
        have HC221_0 := Az.mk hl221_0
        clear hi221_0 hl221_0
        replace p221 := eq_true p221
        replace q221 := eq_true q221
        by_cases c13 : ((rd_L1 l0 x5_2).length : Int) = 3
        ·rw [if_pos c13] at H
         have c13b0 : (((rd_L1 l0 x5_2).length : Int) == 3) = true := beq_iff_eq.mpr c13
         have c13b1 : (((rd_L1 l0 x5_2).length : Int) != 3) = false := bne_eq_false_iff_eq.mpr c13
         clear c13
         have H' := Az.mk H
         clear H
         go_wp2
         go_loopg [34] k2 (fun kq v6 w' => ∃ (x4_3 : List Int) (x6_3 : Int), v6 = .int .i64 x6_3 ∧ Az (impl_IsTriangulation.l1 kq l0 (wrap64 (Int.tdiv (wrap64 (3 * (l0.length : Int))) 2)) x4_3 x5_2 x6_3 = some r) ∧ Az (kq ≤ k2) ∧ Az (TriSeen w' wc.heap.size x4_3) ∧ Az (Below w.heap.size w w'))
         case atStart => exact ⟨(x4_2), (0), (by first | rfl | (simp; done) | (simp [*]; done)), H', ⟨Nat.le_refl _⟩, HS, ⟨by repeat (first | (with_reducible first | exact HB.out | apply bwA | apply pbN | apply bwD) | exact HB.out)⟩⟩
         case round =>
          clear H'
          clear HS hx221_0 HB
          obtain ⟨x4_3, x6_3, rfl, HA, HK3, HS, HB⟩ := hrel
          cases gk with
          | zero => exact absurd HA.out (by simp [impl_IsTriangulation.l1])
          | succ k3 =>
           have H := HA.out
           clear HA
           simp only [impl_IsTriangulation.l1] at H
           by_cases c14 : x6_3 < ((rd_L1 l0 x5_2).length : Int)
           ·rw [if_pos c14] at H
            have c14b0 : decide (x6_3 < ((rd_L1 l0 x5_2).length : Int)) = true := decide_eq_true c14
            clear c14
            by_cases c17 : 0 ≤ x6_3
            ·rw [if_pos c17] at H
             have c17b0 : decide (0 ≤ x6_3) = true := decide_eq_true c17
             clear c17
             have p223 : 0 ≤ (x6_3 : Int) := of_decide_eq_true (by first | (with_reducible assumption) | assumption)
             have q223 : x6_3 < ((rd_L1 l0 x5_2).length : Int) := of_decide_eq_true (by first | (with_reducible assumption) | assumption)
             obtain ⟨ad223, e223, hx223_0⟩ := Kd.at_int HR221_0.out x6_3 p223 q223
             cases e223
             replace hx223_0 := (HB.out.cell (World.block_lt_of_cell? w _ hx223_0)).trans hx223_0
             replace p223 := eq_true p223
             replace q223 := eq_true q223
             obtain ⟨X, hX⟩ : ∃ j_ : Int, rd (rd_L1 l0 x5_2) x6_3 = j_ := ⟨_, rfl⟩
             rw [hX] at H hx223_0
             clear hX
             by_cases c19 : X = 0
             ·rw [if_pos c19] at H
              have c19b0 : (X == 0) = true := beq_iff_eq.mpr c19
              have c19b1 : (X != 0) = false := bne_eq_false_iff_eq.mpr c19
              clear c19
              obtain rfl := Option.some.inj H
              go_wp2
              go_ret
              exact ⟨by first | rfl | (simp [eWn, eWs] <;> rfl) | (simp [*, eWn, eWs] <;> rfl), by repeat (first | (with_reducible first | exact HB.out | apply bwA | apply pbN | apply bwD) | exact HB.out)⟩
             ·rw [if_neg c19] at H
              have c19b0 : (X == 0) = false := beq_eq_false_iff_ne.mpr c19
              have c19b1 : (X != 0) = true := bne_iff_ne.mpr c19
              clear c19
              replace H := Option.bind_eq_some_iff.mp H
              obtain ⟨t224, A200, H⟩ := H
              replace H : (if t224 = true then (if X ∈ x4_3 then (some false) else (impl_IsTriangulation.l1 k3 l0 (wrap64 (Int.tdiv (wrap64 (3 * (l0.length : Int))) 2)) (X :: x4_3) x5_2 (wrap64 (x6_3 + 1)))) else (some false)) = some r := H
              have A20 := Az.mk A200
              clear A200
              by_cases c21 : t224 = true
              ·subst c21
               rw [if_pos rfl] at H
               have HX := Az.mk (tri_within A20.out)
               have HX9 : Az (-9 ≤ X ∧ X ≤ 9) := ⟨by
                have h1 := HX.out
                have h2 := HN9.out
                rw [tri_neg h2] at h1
                omega⟩
               have HW : Az ((Lit.int .i64 X).wf = true) := ⟨WalkArith.wf_i64 (by have := HX9.out; omega)⟩
               by_cases c22 : X ∈ x4_3
               ·rw [if_pos c22] at H
                have C22 := Az.mk c22
                clear c22
                obtain rfl := Option.some.inj H
                go_wp2_with (first | (go_at_call 27; (with_reducible refine (impl_within.calls X (wrap64 (-(wrap64 (Int.tdiv (wrap64 (3 * (l0.length : Int))) 2)))) (wrap64 (Int.tdiv (wrap64 (3 * (l0.length : Int))) 2)) true _ A20.out).mono ?_); rintro e w' ⟨rfl, ⟨nd, rfl⟩⟩; have hlk := (HS.out.drewN nd).look HW.out; rw [decide_eq_true C22.out] at hlk))
                go_ret
                exact ⟨by first | rfl | (simp [eWn, eWs] <;> rfl) | (simp [*, eWn, eWs] <;> rfl), by repeat (first | (with_reducible first | exact HB.out | apply bwA | apply pbN | apply bwD) | exact HB.out)⟩
               ·rw [if_neg c22] at H
                have C22 := Az.mk c22
                clear c22
                have H' := Az.mk H
                clear H
                go_wp2_with (first | (go_at_call 27; (with_reducible refine (impl_within.calls X (wrap64 (-(wrap64 (Int.tdiv (wrap64 (3 * (l0.length : Int))) 2)))) (wrap64 (Int.tdiv (wrap64 (3 * (l0.length : Int))) 2)) true _ A20.out).mono ?_); rintro e w' ⟨rfl, ⟨nd, rfl⟩⟩; have hlk := (HS.out.drewN nd).look HW.out; rw [decide_eq_false C22.out] at hlk; obtain ⟨w1, hup, hs1, hg1⟩ := (HS.out.drewN nd).put HW.out HX9.out C22.out; have HS1 := Az.mk hs1; have HG1 := Az.mk hg1; clear hs1 hg1))
                go_roundg k3
                case measure => have := HK2.out; have := HK3.out; omega
                case rel => exact ⟨(X :: x4_3), (wrap64 (x6_3 + 1)), (by first | rfl | (simp; done) | (simp [*]; done)), H', ⟨by have := HK2.out; have := HK3.out; omega⟩, HS1, ⟨by
                 refine Below.grown (by repeat (first | (with_reducible first | exact HB.out | apply bwA | apply pbN | apply bwD) | exact HB.out)) HG1.out HB.out.size (fun j hj => by cases hj; exact HBC.out)⟩⟩
              ·replace c21 := Bool.eq_false_iff.mpr c21
               subst c21
               rw [if_neg (show ¬ (false = true) by decide)] at H
               obtain rfl := Option.some.inj H
               go_wp2_with (first | (go_at_call 27; (with_reducible refine (impl_within.calls X (wrap64 (-(wrap64 (Int.tdiv (wrap64 (3 * (l0.length : Int))) 2)))) (wrap64 (Int.tdiv (wrap64 (3 * (l0.length : Int))) 2)) false _ A20.out).mono ?_); rintro e w' ⟨rfl, ⟨nd, rfl⟩⟩))
               go_ret
               exact ⟨by first | rfl | (simp [eWn, eWs] <;> rfl) | (simp [*, eWn, eWs] <;> rfl), by repeat (first | (with_reducible first | exact HB.out | apply bwA | apply pbN | apply bwD) | exact HB.out)⟩
            ·rw [if_neg c17] at H
             exact absurd H (by simp)
           ·rw [if_neg c14] at H
            have c14b0 : decide (x6_3 < ((rd_L1 l0 x5_2).length : Int)) = false := decide_eq_false c14
            clear c14
            have H' := Az.mk H
            clear H
            go_wp2
            go_roundg k3
            case measure => have := HK2.out; have := HK3.out; omega
            case rel => exact ⟨(x4_3), (wrap64 (x5_2 + 1)), (by first | rfl | (simp; done) | (simp [*]; done)), H', ⟨by have := HK2.out; have := HK3.out; omega⟩, HS, ⟨by repeat (first | (with_reducible first | exact HB.out | apply bwA | apply pbN | apply bwD) | exact HB.out)⟩⟩
        ·rw [if_neg c13] at H
         have c13b0 : (((rd_L1 l0 x5_2).length : Int) == 3) = false := beq_eq_false_iff_ne.mpr c13
         have c13b1 : (((rd_L1 l0 x5_2).length : Int) != 3) = true := bne_iff_ne.mpr c13
         obtain rfl := Option.some.inj H
         go_wp2
         go_ret
         exact ⟨by first | rfl | (simp [eWn, eWs] <;> rfl) | (simp [*, eWn, eWs] <;> rfl), by repeat (first | (with_reducible first | exact HB.out | apply bwA | apply pbN | apply bwD) | exact HB.out)⟩
       ·rw [if_neg c12] at H
        exact absurd H (by simp)
      ·rw [if_neg c11] at H
       have c11b0 : decide (x5_2 < (l0.length : Int)) = false := decide_eq_false c11
       clear c11
       obtain rfl := Option.some.inj H
       go_wp2
       go_ret
       exact ⟨by first | rfl | (simp [eWn, eWs] <;> rfl) | (simp [*, eWn, eWs] <;> rfl), by repeat (first | (with_reducible first | exact HB.out | apply bwA | apply pbN | apply bwD) | exact HB.out)⟩

end Go.Proofs.Ytjmhcbilefnhdaa.P
