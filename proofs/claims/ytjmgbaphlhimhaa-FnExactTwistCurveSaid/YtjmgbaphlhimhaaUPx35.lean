-- By this session's driver (wip/tools/mk.py) of the kit's print program, over several statements at once. Not trusted: Lean checks it.
import Derived.Test.YtjmgbaphlhimhaaUPx0
import Derived.Test.YtjmgbaphlhimhaaUPx8
import Derived.Test.YtjmgbaphlhimhaaUPx10
import Derived.Test.YtjmgbaphlhimhaaUPx21
import Derived.Test.YtjmgbaphlhimhaaUPx33
import Derived.Test.YtjmgbaphlhimhaaUPx34
namespace Go.Proofs.Ytjmgbaphlhimhaa.P
open Go.RowKit Go.Proofs.YtjmgbaphlhimhaaW.PrintWords Go.Proofs.YtjmgbaphlhimhaaW.PrintLast Go.Proofs.YtjmgbaphlhimhaaW.PrintMore
attribute [local go_sem] max2_int min2_int max_two min_two max_three min_three max_four min_four   -- for this text's walks alone
set_option linter.unusedVariables false
set_option linter.unusedSimpArgs false
theorem bw_35 {n : Nat} {v v' : World} (h : Below n v v' := by repeat (first | (with_reducible first | exact HB.out | apply bwA | apply pbN | apply bwD | refine bwS ?_ GE522.out | refine bwS ?_ GE532.out) | exact HB.out)) : Below n v v' := h
theorem ln_35 {P : Prop} (h : P := by (try simp only [List.map_toArray, List.map_cons, List.map_nil]); first | done | rfl | (simp only [List.length_drop, List.length_take]; rfl)) : P := h
open Option renaming bind_eq_some_iff → be

/-! ### impl_CurveOfSlope: function 54 -/
mutual
def impl_CurveOfSlope.j0 : Nat → Int → Bool → Int → Int → Option (List Int × Bool)
 | 0, _, _, _, _ => none
 | k + 1, x1, x16, x523000, x523001 => if x16 = true then (some (([] : List Int), false)) else ((impl_edgeSlopes.f).bind fun t528 => (impl_CurveOfSlope.l0 k x1 (([] : List Int)) t528 (t528.length : Int) 0 x523000 x523001))
def impl_CurveOfSlope.l0 : Nat → Int → List Int → List (S24) → Int → Int → Int → Int → Option (List Int × Bool)
 | 0, _, _, _, _, _, _, _ => none
 | k + 1, x1, x6, x18, x19, x20, x523000, x523001 => if x20 < x19 then (if 0 ≤ x20 then (if x20 < (x18.length : Int) then ((impl_cross.f x523000 x523001 ((rd_T24 x18 x20).f0) ((rd_T24 x18 x20).f1)).bind fun t533 => (if x6.length < 17592186044416 then (impl_CurveOfSlope.l0 k x1 (x6 ++ [wrap64 (x1 * t533)]) x18 x19 (wrap64 (x20 + 1)) x523000 x523001) else (none))) else (none)) else (none)) else ((impl_areCoordinates.f k x6).bind fun t537 => (if t537 = true then (some (x6, true)) else (some (([] : List Int), false))))
end
def impl_CurveOfSlope.f (k : Nat) (a0_0 : Int) (a0_1 : Int) (a1 : Int) : Option (List Int × Bool) := (impl_IsSlope.f k a0_0 a0_1).bind fun t523 => (if t523 = true then ((impl_within.f a1 0 20).bind fun t524 => (impl_CurveOfSlope.j0 k a1 (!t524) a0_0 a0_1)) else (impl_CurveOfSlope.j0 k a1 true a0_0 a0_1))
theorem impl_CurveOfSlope.mono_l : ∀ k, (∀ y0 y1 y2 y3, LeO (impl_CurveOfSlope.j0 k y0 y1 y2 y3) (impl_CurveOfSlope.j0 (k + 1) y0 y1 y2 y3)) ∧ (∀ y0 y1 y2 y3 y4 y5 y6, LeO (impl_CurveOfSlope.l0 k y0 y1 y2 y3 y4 y5 y6) (impl_CurveOfSlope.l0 (k + 1) y0 y1 y2 y3 y4 y5 y6))
 | 0 => ⟨fun _ _ _ _ r h => by simp [impl_CurveOfSlope.j0] at h, fun _ _ _ _ _ _ _ r h => by simp [impl_CurveOfSlope.l0] at h⟩
 | k + 1 => by
  obtain ⟨ih0, ih1⟩ := impl_CurveOfSlope.mono_l k
  refine ⟨?_, ?_⟩
  ·intro y0 y1 y2 y3
   unfold impl_CurveOfSlope.j0
   repeat' first
   | (with_reducible exact ih0 _ _ _ _)
   | (with_reducible exact ih1 _ _ _ _ _ _ _)
   | (with_reducible exact impl_IsSlope.mono _ _ _)
   | (with_reducible exact impl_areCoordinates.mono _ _)
   | (with_reducible exact LeO.refl _)
   | (with_reducible exact LeO.none _)
   | (with_reducible refine LeO.ite ?_ ?_)
   | (with_reducible refine LeO.bind ?_ (fun _ => ?_))
   | exact ih0 _ _ _ _
   | exact ih1 _ _ _ _ _ _ _
   | exact impl_IsSlope.mono _ _ _
   | exact impl_areCoordinates.mono _ _
   | exact LeO.none _
   | refine LeO.ite ?_ ?_
   | refine LeO.bind ?_ (fun _ => ?_)
  intro y0 y1 y2 y3 y4 y5 y6
  unfold impl_CurveOfSlope.l0
  repeat' first
  | (with_reducible exact ih0 _ _ _ _)
  | (with_reducible exact ih1 _ _ _ _ _ _ _)
  | (with_reducible exact impl_IsSlope.mono _ _ _)
  | (with_reducible exact impl_areCoordinates.mono _ _)
  | (with_reducible exact LeO.refl _)
  | (with_reducible exact LeO.none _)
  | (with_reducible refine LeO.ite ?_ ?_)
  | (with_reducible refine LeO.bind ?_ (fun _ => ?_))
  | exact ih0 _ _ _ _
  | exact ih1 _ _ _ _ _ _ _
  | exact impl_IsSlope.mono _ _ _
  | exact impl_areCoordinates.mono _ _
  | exact LeO.none _
  | refine LeO.ite ?_ ?_
  | refine LeO.bind ?_ (fun _ => ?_)
theorem impl_CurveOfSlope.mono : ∀ a0 a1 a2 k, LeO (impl_CurveOfSlope.f k a0 a1 a2) (impl_CurveOfSlope.f (k + 1) a0 a1 a2) := by
 intro a0 a1 a2 k
 obtain ⟨ih0, ih1⟩ := impl_CurveOfSlope.mono_l k
 unfold impl_CurveOfSlope.f
 repeat' first
   | (with_reducible exact ih0 _ _ _ _)
   | (with_reducible exact ih1 _ _ _ _ _ _ _)
   | (with_reducible exact impl_IsSlope.mono _ _ _)
   | (with_reducible exact impl_areCoordinates.mono _ _)
   | (with_reducible exact LeO.refl _)
   | (with_reducible exact LeO.none _)
   | (with_reducible refine LeO.ite ?_ ?_)
   | (with_reducible refine LeO.bind ?_ (fun _ => ?_))
   | exact ih0 _ _ _ _
   | exact ih1 _ _ _ _ _ _ _
   | exact impl_IsSlope.mono _ _ _
   | exact impl_areCoordinates.mono _ _
   | exact LeO.none _
   | refine LeO.ite ?_ ?_
   | refine LeO.bind ?_ (fun _ => ?_)
set_option maxHeartbeats 8000000 in
set_option maxRecDepth 100000 in
theorem impl_CurveOfSlope.calls (k : Nat) (a0_0 : Int) (a0_1 : Int) (a1 : Int) (r1 : List Int) (r2 : Bool) (w : World) (h : impl_CurveOfSlope.f k a0_0 a0_1 a1 = some (r1, r2)) :
  Calls Try.prog 54 #[.agg #[.int .i64 a0_0, .int .i64 a0_1], .int .i64 a1] w fun e w' => ∃ v0_ : Value, e = .returned (.tuple #[v0_, .bool r2]) ∧ Kd.R (Kd.int .i64) 3 w' w.heap.size (fun _ => True) v0_ r1 ∧ Below w.heap.size w w' := by
 have hu24 := Try.underlying24
 have HB := Az.mk (Below.refl w.heap.size w)
 have H : ((impl_IsSlope.f k a0_0 a0_1).bind fun t523 => (if t523 = true then ((impl_within.f a1 0 20).bind fun t524 => (impl_CurveOfSlope.j0 k a1 (!t524) a0_0 a0_1)) else (impl_CurveOfSlope.j0 k a1 true a0_0 a0_1))) = some (r1, r2) := h
 clear h
 have HC3 := Az.mk H
 clear H
 go_enter Try.func54, Try.ntmps54
 go_upto_region 1 with (first | ((with_reducible refine gtD (N := 2) rfl ?_); refine bxE ?hg (N := 2) ?hd (cs := #[.int .i64 a0_0, .int .i64 a0_1]) (t := 24) ?hr ?_; (case hd => rfl); (case hg => rfl); (case hr => first | (go_simp; done) | (go_simp; rfl)); intro gb522 hg w4 hbox hb; have BK522 := Az.mk (hbox); have GW522 := Az.mk ((by rw [hg]; exact (bwZ bw_35) : w.heap.size ≤ gb522)); have GE522 := Az.mk ((by rw [hg]; exact (bwZ bw_35) : w.heap.size ≤ gb522)); replace HB := Az.mk (bwT bw_35 hb); clear hb hbox hg))
 (try simp only [Act.put, List.setIfInBounds_toArray, List.set_cons_zero, List.set_cons_succ])
 go_cut [16] (fun v16 wc => ∃ (kq : Nat) (x16_2 : Bool), v16 = .bool x16_2 ∧ Az (impl_CurveOfSlope.j0 kq a1 x16_2 a0_0 a0_1 = some (r1, r2)) ∧ Az (kq ≤ k) ∧ Az (wc.heap[gb522]? = some (.cells #[.int .i64 a0_0, .int .i64 a0_1] 24 (0, 0))) ∧ Az (Below w.heap.size w wc))
 case first =>
  have H := HC3.out
  clear HC3
  replace H := be.mp H
  obtain ⟨t523, A50, H⟩ := H
  try dsimp only at H
  have A5 := Az.mk A50
  clear A50
  by_cases c6 : t523 = true
  rotate_left
  ·replace c6 := Bool.eq_false_iff.mpr c6
   subst c6
   rw [if_neg (show ¬ (false = true) by decide)] at H
   have H' := Az.mk H
   clear H
   have hcz10_0 : w4.cell? ⟨gb522, 0, none⟩ = some (.int .i64 a0_0) := (bkC BK522.out 0).trans rfl
   have hcz10_1 : w4.cell? ⟨gb522, 1, none⟩ = some (.int .i64 a0_1) := (bkC BK522.out 1).trans rfl
   have hfz10_0 := bkF BK522.out 0
   have hfz10_1 := bkF BK522.out 1
   go_wp2_with (first | ((with_reducible refine gtC (f := 88) rfl ?_); refine goesL_ (some 10) rfl rfl Try.func88 (by kernel_rfl) rfl #[.agg #[.int .i64 a0_0, .int .i64 a0_1]] rfl ln_35 ?_; (with_reducible refine (impl_IsSlope.calls k a0_0 a0_1 false _ A5.out).mono ?_); rintro e w11 ⟨rfl, hb⟩; refine ⟨_, rfl, ?_⟩; replace BK522 := Az.mk (bkB (g := gb522) (o := .cells #[.int .i64 a0_0, .int .i64 a0_1] 24 (0, 0)) (by (with_reducible repeat first | apply bkN | apply bkD | apply bkA); exact BK522.out) hb); replace HB := Az.mk (bwT bw_35 hb); (try clear hb)))
   go_meet
   case rel => exact ⟨_, (true), (by first | rfl | (simp; done) | (simp [*]; done)), H', ⟨by first | omega | exact Nat.le_refl _⟩, ⟨by (with_reducible repeat first | apply bkN | apply bkD | apply bkA); exact BK522.out⟩, ⟨bw_35⟩⟩
  subst c6
  rw [if_pos rfl] at H
  replace H := be.mp H
  obtain ⟨t524, A70, H⟩ := H
  try dsimp only at H
  have A7 := Az.mk A70
  clear A70
  have H' := Az.mk H
  clear H
  have hcz8_0 : w4.cell? ⟨gb522, 0, none⟩ = some (.int .i64 a0_0) := (bkC BK522.out 0).trans rfl
  have hcz8_1 : w4.cell? ⟨gb522, 1, none⟩ = some (.int .i64 a0_1) := (bkC BK522.out 1).trans rfl
  have hfz8_0 := bkF BK522.out 0
  have hfz8_1 := bkF BK522.out 1
  go_wp2_with (first | ((with_reducible refine gtC (f := 88) rfl ?_); refine goesL_ (some 10) rfl rfl Try.func88 (by kernel_rfl) rfl #[.agg #[.int .i64 a0_0, .int .i64 a0_1]] rfl ln_35 ?_; (with_reducible refine (impl_IsSlope.calls k a0_0 a0_1 true _ A5.out).mono ?_); rintro e w9 ⟨rfl, hb⟩; refine ⟨_, rfl, ?_⟩; replace BK522 := Az.mk (bkB (g := gb522) (o := .cells #[.int .i64 a0_0, .int .i64 a0_1] 24 (0, 0)) (by (with_reducible repeat first | apply bkN | apply bkD | apply bkA); exact BK522.out) hb); replace HB := Az.mk (bwT bw_35 hb); (try clear hb)) | (go_at_call 52; (with_reducible refine (impl_within.calls a1 0 20 t524 _ A7.out).mono ?_); rintro e w' ⟨rfl, ⟨nd, rfl⟩⟩))
  go_meet
  case rel => exact ⟨_, (!t524), (by first | rfl | (simp; done) | (simp [*]; done)), H', ⟨by first | omega | exact Nat.le_refl _⟩, ⟨by (with_reducible repeat first | apply bkN | apply bkD | apply bkA); exact BK522.out⟩, ⟨bw_35⟩⟩
 case rest =>
  clear HC3
  try clear p2
  try clear c5
  try clear c6
  try clear c8
  try clear hcz10_0
  try clear hcz10_1
  try clear hcz8_0
  try clear hcz8_1
  try clear hfz10_0
  try clear hfz10_1
  try clear hfz8_0
  try clear hfz8_1
  obtain ⟨kq, x16_2, rfl, HA, HJ2, BK522, HB⟩ := hcut
  cases kq with
  | zero => exact absurd HA.out (by simp [impl_CurveOfSlope.j0])
  | succ kj2 =>
   have H := HA.out
   clear HA
   simp only [impl_CurveOfSlope.j0] at H
   by_cases c12 : x16_2 = true
   ·subst c12
    rw [if_pos rfl] at H
    simp only [Option.some.injEq, Prod.mk.injEq] at H
    obtain ⟨rfl, rfl⟩ := H
    go_wp2
    go_ret2
    exact ⟨_, by first | rfl | (simp [eWn, eWs] <;> rfl) | (simp [*, eWn, eWs] <;> rfl), by first | exact Kd.R_nil _ _ _ _ _ | exact Kd.N_nil _ _ _ _ _ | exact Kd.V_nil _ _ _ _ _ | exact Kd.Q_nil _ _ _ _ _ | exact Kd.S_nil _ _ _ _ _, bw_35⟩
   replace c12 := Bool.eq_false_iff.mpr c12
   subst c12
   rw [if_neg (show ¬ (false = true) by decide)] at H
   obtain ⟨y525, hy525⟩ : ∃ y_ : List Int, y_ = (([] : List Int)) := ⟨_, rfl⟩
   replace H : ((impl_edgeSlopes.f).bind fun t528 => (impl_CurveOfSlope.l0 kj2 a1 y525 t528 (t528.length : Int) 0 a0_0 a0_1)) = some (r1, r2) := by first | (rw [hy525]; with_reducible exact H) | (have H2_ := (Option.bind_some _ _).symm.trans H; rw [hy525]; with_reducible exact H2_) | (have H2_ := (Option.bind_some _ _).symm.trans H; with_reducible exact H2_) | with_reducible exact H | (rw [hy525]; exact H) | exact H
   have Ny525 := Az.mk hy525
   clear hy525
   replace H := be.mp H
   obtain ⟨t528, A130, H⟩ := H
   try dsimp only at H
   have A13 := Az.mk A130
   clear A130
   have H' := Az.mk H
   clear H
   go_wp2_with (first | ((with_reducible refine gtD (N := 17) rfl ?_); refine Kd.R_lit (Kd.int .i64) _ 3 ?hg (N := 17) ?hd (xs := ([] : List Int)) (inner := []) (ok := fun _ => True) (okp := fun _ => True) ?hr ?hp (fun _ hk => hk) trivial (Below.refl _ _) (Nat.le_refl _) (by simp) ?_; (case hd => rfl); (case hg => rfl); (case hr => first | (go_simp; done) | (go_simp; rfl)); (case hp => exact (Reps.none _ _)); intro v526 w14 ho15 hb hg_ hnew_; clear hg_ hnew_; (first | rw [← Ny525.out] at ho15 | (simp only [Int.reduceToNat] at ho15; rw [← Ny525.out] at ho15)); have HO527 := Az.mk (Kd.R_lower ho15 (bwZ bw_35)); replace BK522 := Az.mk (bkB (g := gb522) (o := .cells #[.int .i64 a0_0, .int .i64 a0_1] 24 (0, 0)) (by (with_reducible repeat first | apply bkN | apply bkD | apply bkA); exact BK522.out) hb); replace HB := Az.mk (bwT bw_35 hb); clear hb ho15) | ((with_reducible refine gtC (f := 90) rfl ?_); refine goesL_ (some 18) rfl rfl Try.func90 (by kernel_rfl) rfl #[] rfl ln_35 ?_; (with_reducible refine (impl_edgeSlopes.calls  t528 _ A13.out).mono ?_); rintro e w16 ⟨v529, rfl, ho0, hb⟩; refine ⟨_, rfl, ?_⟩; replace HO527 := Az.mk (Kd.R_below (by (with_reducible repeat (first | apply Kd.R_alloc | apply Kd.R_drewN | apply Kd.R_drew)); exact HO527.out) hb); have HO530 := Az.mk (Kd.R_lower (Kd.R_newB ho0 (g := gb522) (o := .cells #[.int .i64 a0_0, .int .i64 a0_1] 24 (0, 0)) (by (with_reducible repeat first | apply bkN | apply bkD | apply bkA); exact BK522.out)) (bwZ bw_35)); replace BK522 := Az.mk (bkB (g := gb522) (o := .cells #[.int .i64 a0_0, .int .i64 a0_1] 24 (0, 0)) (by (with_reducible repeat first | apply bkN | apply bkD | apply bkA); exact BK522.out) hb); replace HB := Az.mk (bwT bw_35 hb); (try clear hb); (try clear ho0); obtain ⟨Ao17, co17, eo17⟩ := Kd.R_slice HO530.out; subst eo17))
   go_loopg [6, 20] kj2 (fun kq v6 v20 w' => ∃ (x6_2 : List Int) (x20_2 : Int), v20 = .int .i64 x20_2 ∧ Az (impl_CurveOfSlope.l0 kq a1 x6_2 t528 (t528.length : Int) x20_2 a0_0 a0_1 = some (r1, r2)) ∧ Az (kq ≤ kj2) ∧ Az (Kd.R (Kd.int .i64) 3 w' w.heap.size (fun _ => True) v6 x6_2) ∧ Az (Kd.R k24 24 w' w.heap.size (fun k_ => k_ ≠ gb522) (.slice Ao17 t528.length co17) t528) ∧ Az (w'.heap[gb522]? = some (.cells #[.int .i64 a0_0, .int .i64 a0_1] 24 (0, 0))) ∧ Az (Below w.heap.size w w'))
   case atStart => exact ⟨(y525), (0), (by first | rfl | (simp; done) | (simp [*]; done)), H', ⟨Nat.le_refl _⟩, ⟨by (with_reducible repeat (first | apply Kd.R_alloc | apply Kd.R_drewN | apply Kd.R_drew)); exact HO527.out⟩, ⟨by (with_reducible repeat (first | apply Kd.R_alloc | apply Kd.R_drewN | apply Kd.R_drew)); exact Kd.R_mono HO530.out (fun _ hk => hk.2)⟩, ⟨by (with_reducible repeat first | apply bkN | apply bkD | apply bkA); exact BK522.out⟩, ⟨bw_35⟩⟩
   case round =>
    clear H'
    try clear c1
    try clear p2
    try clear c5
    try clear c6
    try clear c8
    try clear c9
    try clear c12
    try clear hcz10_0
    try clear hcz10_1
    try clear hcz8_0
    try clear hcz8_1
    try clear hfz10_0
    try clear hfz10_1
    try clear hfz8_0
    try clear hfz8_1
    try clear p2
    obtain ⟨x6_2, x20_2, rfl, HA, HK2, HO_6, HO_18, BK522, HB⟩ := hrel
    cases gk with
    | zero => exact absurd HA.out (by simp [impl_CurveOfSlope.l0])
    | succ k2 =>
     have H := HA.out
     clear HA
     simp only [impl_CurveOfSlope.l0] at H
     by_cases c18 : x20_2 < (t528.length : Int)
     rotate_left
     ·rw [if_neg c18] at H
      have c18b0 : decide (x20_2 < (t528.length : Int)) = false := decide_eq_false c18
      clear c18
      replace H := be.mp H
      obtain ⟨t537, A290, H⟩ := H
      try dsimp only at H
      have A29 := Az.mk A290
      clear A290
      by_cases c30 : t537 = true
      ·subst c30
       rw [if_pos rfl] at H
       simp only [Option.some.injEq, Prod.mk.injEq] at H
       obtain ⟨rfl, rfl⟩ := H
       obtain ⟨Ao31, co31, eo31⟩ := Kd.R_slice HO_6.out
       subst eo31
       go_wp2_with (first | ((with_reducible refine gtC (f := 91) rfl ?_); refine goesL_ (some 34) rfl rfl Try.func91 (by kernel_rfl) rfl #[.slice Ao31 x6_2.length co31] rfl ln_35 ?_; (with_reducible refine (impl_areCoordinates.calls k2 _ _ x6_2 true _ ?side1 ?side2 A29.out).mono ?_); (case side1 => repeat (first | exact (Kd.R_reads' HO_6.out).2.2 | (with_reducible refine Kd.C_alloc ?_ _) | (with_reducible refine Kd.C_drewN ?_ _) | (with_reducible refine Kd.C_drew ?_))); (case side2 => exact (Kd.R_reads' HO_6.out).2.1); rintro e w' ⟨rfl, ⟨nd, rfl⟩⟩; refine ⟨_, rfl, ?_⟩))
       go_ret2
       exact ⟨_, by first | rfl | (simp [eWn, eWs] <;> rfl) | (simp [*, eWn, eWs] <;> rfl), by (with_reducible repeat (first | apply Kd.R_alloc | apply Kd.R_drewN | apply Kd.R_drew)); exact HO_6.out, bw_35⟩
      replace c30 := Bool.eq_false_iff.mpr c30
      subst c30
      rw [if_neg (show ¬ (false = true) by decide)] at H
      simp only [Option.some.injEq, Prod.mk.injEq] at H
      obtain ⟨rfl, rfl⟩ := H
      obtain ⟨Ao32, co32, eo32⟩ := Kd.R_slice HO_6.out
      subst eo32
      go_wp2_with (first | ((with_reducible refine gtC (f := 91) rfl ?_); refine goesL_ (some 34) rfl rfl Try.func91 (by kernel_rfl) rfl #[.slice Ao32 x6_2.length co32] rfl ln_35 ?_; (with_reducible refine (impl_areCoordinates.calls k2 _ _ x6_2 false _ ?side1 ?side2 A29.out).mono ?_); (case side1 => repeat (first | exact (Kd.R_reads' HO_6.out).2.2 | (with_reducible refine Kd.C_alloc ?_ _) | (with_reducible refine Kd.C_drewN ?_ _) | (with_reducible refine Kd.C_drew ?_))); (case side2 => exact (Kd.R_reads' HO_6.out).2.1); rintro e w' ⟨rfl, ⟨nd, rfl⟩⟩; refine ⟨_, rfl, ?_⟩))
      go_ret2
      exact ⟨_, by first | rfl | (simp [eWn, eWs] <;> rfl) | (simp [*, eWn, eWs] <;> rfl), by first | exact Kd.R_nil _ _ _ _ _ | exact Kd.N_nil _ _ _ _ _ | exact Kd.V_nil _ _ _ _ _ | exact Kd.Q_nil _ _ _ _ _ | exact Kd.S_nil _ _ _ _ _, bw_35⟩
     rw [if_pos c18] at H
     have c18b0 : decide (x20_2 < (t528.length : Int)) = true := decide_eq_true c18
     clear c18
     by_cases c19 : 0 ≤ x20_2
     rotate_left
     ·rw [if_neg c19] at H
      exact absurd H (by simp)
     rw [if_pos c19] at H
     have c19b0 : decide (0 ≤ x20_2) = true := decide_eq_true c19
     clear c19
     by_cases c20 : x20_2 < (t528.length : Int)
     rotate_left
     ·rw [if_neg c20] at H
      exact absurd H (by simp)
     rw [if_pos c20] at H
     have c20b0 : decide (x20_2 < (t528.length : Int)) = true := decide_eq_true c20
     clear c20
     replace H := be.mp H
     obtain ⟨t533, A210, H⟩ := H
     try dsimp only at H
     have A21 := Az.mk A210
     clear A210
     by_cases c22 : x6_2.length < 17592186044416
     rotate_left
     ·rw [if_neg c22] at H
      exact absurd H (by simp)
     rw [if_pos c22] at H
     have LMc22 := Az.mk c22
     clear c22
     obtain ⟨y534, hy534⟩ : ∃ y_ : List Int, y_ = (x6_2 ++ [wrap64 (a1 * t533)]) := ⟨_, rfl⟩
     replace H : (impl_CurveOfSlope.l0 k2 a1 y534 t528 (t528.length : Int) (wrap64 (x20_2 + 1)) a0_0 a0_1) = some (r1, r2) := by first | (rw [hy534]; with_reducible exact H) | (have H2_ := (Option.bind_some _ _).symm.trans H; rw [hy534]; with_reducible exact H2_) | (have H2_ := (Option.bind_some _ _).symm.trans H; with_reducible exact H2_) | with_reducible exact H | (rw [hy534]; exact H) | exact H
     have Ny534 := Az.mk hy534
     clear hy534
     have H' := Az.mk H
     clear H
     have p531 : 0 ≤ (x20_2 : Int) := of_decide_eq_true (by first | (with_reducible assumption) | assumption)
     have q531 : x20_2 < (t528.length : Int) := of_decide_eq_true (by first | (with_reducible assumption) | assumption)
     obtain ⟨ad531, e531, hx531_0, hx531_1⟩ := at_T24 (Kd.R_reads' HO_18.out).2.2 x20_2 p531 q531
     cases e531
     replace p531 := eq_true p531
     replace q531 := eq_true q531
     go_wp2_with (first | ((with_reducible refine gtD (N := 8) rfl ?_); refine bxE ?hg (N := 8) ?hd (cs := #[.int .i64 0, .int .i64 0]) (t := 24) ?hr ?_; (case hd => rfl); (case hg => rfl); (case hr => first | (go_simp; done) | (go_simp; rfl)); intro gb532 hg w23 hbox hb; replace HO_6 := Az.mk (Kd.R_below (by (with_reducible repeat (first | apply Kd.R_alloc | apply Kd.R_drewN | apply Kd.R_drew)); exact HO_6.out) hb); replace HO_18 := Az.mk (Kd.R_below (Kd.R_elderB (by (with_reducible repeat (first | apply Kd.R_alloc | apply Kd.R_drewN | apply Kd.R_drew)); exact HO_18.out) gb532 (Nat.le_of_eq hg.symm)) hb); have BK532 := Az.mk (hbox); have GW532 := Az.mk ((by rw [hg]; exact (bwZ bw_35) : w.heap.size ≤ gb532)); have GE532 := Az.mk ((by rw [hg]; exact (bwZ bw_35) : w.heap.size ≤ gb532)); replace HB := Az.mk (bwT bw_35 hb); have NB522_532 := Az.mk ((by rw [hg]; exact Nat.ne_of_lt (blk_lt (g := gb522) (o := .cells #[.int .i64 a0_0, .int .i64 a0_1] 24 (0, 0)) (by (with_reducible repeat first | apply bkN | apply bkD | apply bkA); exact BK522.out)) : gb522 ≠ gb532)); have NB532_522 := Az.mk ((by rw [hg]; exact Nat.ne_of_gt (blk_lt (g := gb522) (o := .cells #[.int .i64 a0_0, .int .i64 a0_1] 24 (0, 0)) (by (with_reducible repeat first | apply bkN | apply bkD | apply bkA); exact BK522.out)) : gb532 ≠ gb522)); replace BK522 := Az.mk (bkB (g := gb522) (o := .cells #[.int .i64 a0_0, .int .i64 a0_1] 24 (0, 0)) (by (with_reducible repeat first | apply bkN | apply bkD | apply bkA); exact BK522.out) hb); clear hb hbox hg; have hnb24 := NB532_522.out; have hnc24 := NB522_532.out; have hcz25_0 : w23.cell? ⟨gb532, 0, none⟩ = some (.int .i64 0) := (bkC BK532.out 0).trans rfl; have hcz25_1 : w23.cell? ⟨gb532, 1, none⟩ = some (.int .i64 0) := (bkC BK532.out 1).trans rfl; have hfz25_0 := bkF BK532.out 0; have hfz25_1 := bkF BK532.out 1; have hcz26_0 : w23.cell? ⟨gb522, 0, none⟩ = some (.int .i64 a0_0) := (bkC BK522.out 0).trans rfl; have hcz26_1 : w23.cell? ⟨gb522, 1, none⟩ = some (.int .i64 a0_1) := (bkC BK522.out 1).trans rfl; have hfz26_0 := bkF BK522.out 0; have hfz26_1 := bkF BK522.out 1) | ((with_reducible refine gtC (f := 48) rfl ?_); refine goesL_ (some 28) rfl rfl Try.func48 (by kernel_rfl) rfl #[.agg #[.int .i64 a0_0, .int .i64 a0_1], .agg #[.int .i64 ((rd_T24 t528 x20_2).f0), .int .i64 ((rd_T24 t528 x20_2).f1)]] rfl ln_35 ?_; (with_reducible refine (impl_cross.calls a0_0 a0_1 ((rd_T24 t528 x20_2).f0) ((rd_T24 t528 x20_2).f1) t533 _ A21.out).mono ?_); rintro e w27 ⟨rfl, hb⟩; refine ⟨_, rfl, ?_⟩; replace HO_6 := Az.mk (Kd.R_below (by (with_reducible repeat (first | apply Kd.R_alloc | apply Kd.R_drewN | apply Kd.R_drew)); exact (Kd.R_mono (Kd.R_far (p := ⟨gb532, 1, none⟩) (Kd.R_far (p := ⟨gb532, 0, none⟩) (Kd.R_types HO_6.out BK532.out (by decide)) (fun _ hk => hk.2) (.int .i64 ((rd_T24 t528 x20_2).f0))) (fun _ hk => hk.2) (.int .i64 ((rd_T24 t528 x20_2).f1))) (fun _ h_ => h_.1))) hb); replace HO_18 := Az.mk (Kd.R_below (by (with_reducible repeat (first | apply Kd.R_alloc | apply Kd.R_drewN | apply Kd.R_drew)); exact (Kd.R_mono (Kd.R_far (p := ⟨gb532, 1, none⟩) (Kd.R_far (p := ⟨gb532, 0, none⟩) (Kd.R_mono HO_18.out (fun k_ hk => (⟨hk, hk.2⟩ : _ ∧ k_ ≠ gb532))) (fun _ hk => hk.2) (.int .i64 ((rd_T24 t528 x20_2).f0))) (fun _ hk => hk.2) (.int .i64 ((rd_T24 t528 x20_2).f1))) (fun _ h_ => h_.1))) hb); replace BK522 := Az.mk (bkB (g := gb522) (o := .cells #[.int .i64 a0_0, .int .i64 a0_1] 24 (0, 0)) (by (with_reducible repeat first | apply bkN | apply bkD | apply bkA); refine bkf ?_ NB522_532.out _; (with_reducible repeat first | apply bkN | apply bkD | apply bkA); refine bkf ?_ NB522_532.out _; (with_reducible repeat first | apply bkN | apply bkD | apply bkA); exact BK522.out) hb); replace BK532 := Az.mk (bkB (g := gb532) (o := .cells #[.int .i64 ((rd_T24 t528 x20_2).f0), .int .i64 ((rd_T24 t528 x20_2).f1)] 24 (0, 0)) (by (with_reducible repeat first | apply bkN | apply bkD | apply bkA); refine bkp (cs := #[.int .i64 ((rd_T24 t528 x20_2).f0), .int .i64 0]) ?_ 1 _ rfl; (with_reducible repeat first | apply bkN | apply bkD | apply bkA); refine bkp (cs := #[.int .i64 0, .int .i64 0]) ?_ 0 _ rfl; (with_reducible repeat first | apply bkN | apply bkD | apply bkA); exact BK532.out) hb); replace HB := Az.mk (bwT bw_35 hb); (try clear hb); (try clear hk)) | ((with_reducible refine gate_builtin (b := .append) (xs := #[.tmp 24, .tmp 30]) rfl ?_); at_builtin; refine Kd.R_append (Kd.int .i64) (w0 := w) w.heap.size rfl (.tmp 24) (.tmp 30) 22 3 (.int .i64 0) 8 rfl Try.underlying22 info3 rfl (by decide) (by omega) u6 x6_2 (wrap64 (a1 * t533)) [.int .i64 (wrap64 (a1 * t533))] (fun _ => True) (fun _ => False) rfl rfl ?aP (fun _ hk => hk.elim) ?aF ?aO ?aB ?aS ?aL ?_; (case aP => exact rfl); (case aB => exact bw_35); (case aF => exact (fun _ _ => trivial)); (case aO => exact (by (with_reducible repeat (first | apply Kd.R_alloc | apply Kd.R_drewN | apply Kd.R_drew)); exact HO_6.out)); (case aS => exact (bwZ bw_35)); (case aL => have := LMc22.out; omega); intro v535 w28 ho hb hg hat; rw [← Ny534.out] at ho; have n0_ := Az.mk (Kd.R_over' (by (with_reducible repeat (first | apply Kd.R_alloc | apply Kd.R_drewN | apply Kd.R_drew)); exact HO_18.out) (Kd.R_typed (by (with_reducible repeat (first | apply Kd.R_alloc | apply Kd.R_drewN | apply Kd.R_drew)); exact HO_6.out)) (by decide) hg); have n1_ := Az.mk (blk_grown (g := gb522) (o := .cells #[.int .i64 a0_0, .int .i64 a0_1] 24 (0, 0)) (by (with_reducible repeat first | apply bkN | apply bkD | apply bkA); exact BK522.out) hg (Kd.R_ne HO_6.out BK522.out (by decide))); have n2_ := Az.mk (blk_grown (g := gb532) (o := .cells #[.int .i64 ((rd_T24 t528 x20_2).f0), .int .i64 ((rd_T24 t528 x20_2).f1)] 24 (0, 0)) (by (with_reducible repeat first | apply bkN | apply bkD | apply bkA); exact BK532.out) hg (Kd.R_ne HO_6.out BK532.out (by decide))); have n3_ := Az.mk (hb); have n4_ := Az.mk (ho); clear HO_18; clear BK522; clear BK532; clear HB; clear HO_6; have HO_18 := n0_; have BK522 := n1_; have BK532 := n2_; have HB := n3_; have HO536 := n4_; clear n0_ n1_ n2_ n3_ n4_; clear ho hb hg hat))
     go_roundg k2
     case measure => have := HJ2.out; have := HK2.out; omega
     case rel => exact ⟨(y534), (wrap64 (x20_2 + 1)), (by first | rfl | (simp; done) | (simp [*]; done)), H', ⟨by have := HJ2.out; have := HK2.out; omega⟩, ⟨by (with_reducible repeat (first | apply Kd.R_alloc | apply Kd.R_drewN | apply Kd.R_drew)); exact HO536.out⟩, ⟨by (with_reducible repeat (first | apply Kd.R_alloc | apply Kd.R_drewN | apply Kd.R_drew)); exact Kd.R_mono HO_18.out (fun _ hk => hk.1)⟩, ⟨by (with_reducible repeat first | apply bkN | apply bkD | apply bkA); exact BK522.out⟩, ⟨bw_35⟩⟩

end Go.Proofs.Ytjmgbaphlhimhaa.P
