-- By this session's driver (wip/tools/mk.py) of the kit's print program, over several statements at once. Not trusted: Lean checks it.
import Derived.Test.YtjmgbaphlhimhaaVPx0
import Derived.Test.YtjmgbaphlhimhaaVPx1
import Derived.Test.YtjmgbaphlhimhaaVPx8
import Derived.Test.YtjmgbaphlhimhaaVPx16
import Derived.Test.YtjmgbaphlhimhaaVPx19
import Derived.Test.YtjmgbaphlhimhaaVPx29
import Derived.Test.YtjmgbaphlhimhaaVPx30
namespace Go.Proofs.Ytjmgbaphlhimhaa.P
open Go.RowKit Go.Proofs.YtjmgbaphlhimhaaW.PrintWords Go.Proofs.YtjmgbaphlhimhaaW.PrintLast Go.Proofs.YtjmgbaphlhimhaaW.PrintMore
attribute [local go_sem] max2_int min2_int max_two min_two max_three min_three max_four min_four   -- for this text's walks alone
set_option linter.unusedVariables false
set_option linter.unusedSimpArgs false
theorem bw_31 {n : Nat} {v v' : World} (h : Below n v v' := by repeat (first | (with_reducible first | exact HB.out | apply bwA | apply pbN | apply bwD | refine bwS ?_ GE477.out | refine bwS ?_ GE482.out | refine bwS ?_ GE497.out | refine bwS ?_ GE508.out) | exact HB.out)) : Below n v v' := h
theorem ln_31 {P : Prop} (h : P := by (try simp only [List.map_toArray, List.map_cons, List.map_nil]); first | done | rfl | (simp only [List.length_drop, List.length_take]; rfl)) : P := h

/-! ### spec_TwistCurve: function 17 -/
mutual
def spec_TwistCurve.j0 : Nat → List Int → Int → Int → Int → Bool → Int → Int → Int → Int → Option (List Int × Bool)
 | 0, _, _, _, _, _, _, _, _, _ => none
 | k + 1, x1, x2, x9, x12, x42, x478000, x478001, x483000, x483001 => if x42 = true then (some ((([] : List Int)), false)) else (if x9 = 0 then (spec_TwistCurve.j1 k x1 x2 x9 x12 true x478000 x478001 x483000 x483001) else (spec_TwistCurve.j1 k x1 x2 x9 x12 (x12 == 0) x478000 x478001 x483000 x483001))
def spec_TwistCurve.j1 : Nat → List Int → Int → Int → Int → Bool → Int → Int → Int → Int → Option (List Int × Bool)
 | 0, _, _, _, _, _, _, _, _, _ => none
 | k + 1, x1, x2, x9, x12, x49, x478000, x478001, x483000, x483001 => if x49 = true then ((spec_l17Tri.f).bind fun t487 => ((spec_PlainCurve.f k t487 x1).bind fun bt490 => (some (bt490.1, bt490.2)))) else ((spec_TwistSlope.f k x478000 x478001 x483000 x483001 (wrap64 (x2 * x9))).bind fun bt494 => (if bt494.2.2 = true then (if x12 > 20 then (some ((([] : List Int)), false)) else ((spec_CurveOfSlope.f k bt494.1 bt494.2.1 x12).bind fun bt501 => (some (bt501.1, bt501.2)))) else (some ((([] : List Int)), false))))
end
def spec_TwistCurve.f (k : Nat) (l0 : List Int) (l1 : List Int) (a2 : Int) : Option (List Int × Bool) := (spec_SlopeOfCurve.f k l0).bind fun bt473 => ((spec_SlopeOfCurve.f k l1).bind fun bt478 => (if bt473.2.2.2 = true then (if bt478.2.2.2 = true then ((spec_l1In.f a2 (-20) 20).bind fun t483 => (spec_TwistCurve.j0 k l1 a2 bt473.2.2.1 bt478.2.2.1 (!t483) bt473.1 bt473.2.1 bt478.1 bt478.2.1)) else (spec_TwistCurve.j0 k l1 a2 bt473.2.2.1 bt478.2.2.1 true bt473.1 bt473.2.1 bt478.1 bt478.2.1)) else (spec_TwistCurve.j0 k l1 a2 bt473.2.2.1 bt478.2.2.1 true bt473.1 bt473.2.1 bt478.1 bt478.2.1)))
theorem spec_TwistCurve.mono_l : ∀ k, (∀ y0 y1 y2 y3 y4 y5 y6 y7 y8, LeO (spec_TwistCurve.j0 k y0 y1 y2 y3 y4 y5 y6 y7 y8) (spec_TwistCurve.j0 (k + 1) y0 y1 y2 y3 y4 y5 y6 y7 y8)) ∧ (∀ y0 y1 y2 y3 y4 y5 y6 y7 y8, LeO (spec_TwistCurve.j1 k y0 y1 y2 y3 y4 y5 y6 y7 y8) (spec_TwistCurve.j1 (k + 1) y0 y1 y2 y3 y4 y5 y6 y7 y8))
 | 0 => ⟨fun _ _ _ _ _ _ _ _ _ r h => by simp [spec_TwistCurve.j0] at h, fun _ _ _ _ _ _ _ _ _ r h => by simp [spec_TwistCurve.j1] at h⟩
 | k + 1 => by
  obtain ⟨ih0, ih1⟩ := spec_TwistCurve.mono_l k
  refine ⟨?_, ?_⟩
  ·intro y0 y1 y2 y3 y4 y5 y6 y7 y8
   unfold spec_TwistCurve.j0
   repeat' first
   | (with_reducible exact ih0 _ _ _ _ _ _ _ _ _)
   | (with_reducible exact ih1 _ _ _ _ _ _ _ _ _)
   | (with_reducible exact spec_CurveOfSlope.mono _ _ _ _)
   | (with_reducible exact spec_PlainCurve.mono _ _ _)
   | (with_reducible exact spec_SlopeOfCurve.mono _ _)
   | (with_reducible exact spec_TwistSlope.mono _ _ _ _ _ _)
   | (with_reducible exact LeO.refl _)
   | (with_reducible exact LeO.none _)
   | (with_reducible refine LeO.ite ?_ ?_)
   | (with_reducible refine LeO.bind ?_ (fun _ => ?_))
   | exact ih0 _ _ _ _ _ _ _ _ _
   | exact ih1 _ _ _ _ _ _ _ _ _
   | exact spec_CurveOfSlope.mono _ _ _ _
   | exact spec_PlainCurve.mono _ _ _
   | exact spec_SlopeOfCurve.mono _ _
   | exact spec_TwistSlope.mono _ _ _ _ _ _
   | exact LeO.none _
   | refine LeO.ite ?_ ?_
   | refine LeO.bind ?_ (fun _ => ?_)
  intro y0 y1 y2 y3 y4 y5 y6 y7 y8
  unfold spec_TwistCurve.j1
  repeat' first
  | (with_reducible exact ih0 _ _ _ _ _ _ _ _ _)
  | (with_reducible exact ih1 _ _ _ _ _ _ _ _ _)
  | (with_reducible exact spec_CurveOfSlope.mono _ _ _ _)
  | (with_reducible exact spec_PlainCurve.mono _ _ _)
  | (with_reducible exact spec_SlopeOfCurve.mono _ _)
  | (with_reducible exact spec_TwistSlope.mono _ _ _ _ _ _)
  | (with_reducible exact LeO.refl _)
  | (with_reducible exact LeO.none _)
  | (with_reducible refine LeO.ite ?_ ?_)
  | (with_reducible refine LeO.bind ?_ (fun _ => ?_))
  | exact ih0 _ _ _ _ _ _ _ _ _
  | exact ih1 _ _ _ _ _ _ _ _ _
  | exact spec_CurveOfSlope.mono _ _ _ _
  | exact spec_PlainCurve.mono _ _ _
  | exact spec_SlopeOfCurve.mono _ _
  | exact spec_TwistSlope.mono _ _ _ _ _ _
  | exact LeO.none _
  | refine LeO.ite ?_ ?_
  | refine LeO.bind ?_ (fun _ => ?_)
theorem spec_TwistCurve.mono : ∀ a0 a1 a2 k, LeO (spec_TwistCurve.f k a0 a1 a2) (spec_TwistCurve.f (k + 1) a0 a1 a2) := by
 intro a0 a1 a2 k
 obtain ⟨ih0, ih1⟩ := spec_TwistCurve.mono_l k
 unfold spec_TwistCurve.f
 repeat' first
   | (with_reducible exact ih0 _ _ _ _ _ _ _ _ _)
   | (with_reducible exact ih1 _ _ _ _ _ _ _ _ _)
   | (with_reducible exact spec_CurveOfSlope.mono _ _ _ _)
   | (with_reducible exact spec_PlainCurve.mono _ _ _)
   | (with_reducible exact spec_SlopeOfCurve.mono _ _)
   | (with_reducible exact spec_TwistSlope.mono _ _ _ _ _ _)
   | (with_reducible exact LeO.refl _)
   | (with_reducible exact LeO.none _)
   | (with_reducible refine LeO.ite ?_ ?_)
   | (with_reducible refine LeO.bind ?_ (fun _ => ?_))
   | exact ih0 _ _ _ _ _ _ _ _ _
   | exact ih1 _ _ _ _ _ _ _ _ _
   | exact spec_CurveOfSlope.mono _ _ _ _
   | exact spec_PlainCurve.mono _ _ _
   | exact spec_SlopeOfCurve.mono _ _
   | exact spec_TwistSlope.mono _ _ _ _ _ _
   | exact LeO.none _
   | refine LeO.ite ?_ ?_
   | refine LeO.bind ?_ (fun _ => ?_)
set_option maxHeartbeats 8000000 in
set_option maxRecDepth 100000 in
theorem spec_TwistCurve.calls (k : Nat) (A0 : Option Addr) (c0 : Nat) (l0 : List Int) (A1 : Option Addr) (c1 : Nat) (l1 : List Int) (a2 : Int) (r1 : List Int) (r2 : Bool) (w : World) (hr0 : Kd.C (Kd.int .i64) w A0 l0.length l0) (hc0 : l0.length ≤ c0) (hr1 : Kd.C (Kd.int .i64) w A1 l1.length l1) (hc1 : l1.length ≤ c1) (h : spec_TwistCurve.f k l0 l1 a2 = some (r1, r2)) :
  Calls Try.prog 17 #[.slice A0 l0.length c0, .slice A1 l1.length c1, .int .i64 a2] w fun e w' => ∃ v0_ : Value, e = .returned (.tuple #[v0_, .bool r2]) ∧ Kd.R (Kd.int .i64) 3 w' w.heap.size (fun _ => True) v0_ r1 ∧ Below w.heap.size w w' := by
 have hu24 := Try.underlying24
 have HR0 := Az.mk hr0
 have HC0 := Az.mk hc0
 clear hr0 hc0
 have HR1 := Az.mk hr1
 have HC1 := Az.mk hc1
 clear hr1 hc1
 have HB := Az.mk (Below.refl w.heap.size w)
 have H : ((spec_SlopeOfCurve.f k l0).bind fun bt473 => ((spec_SlopeOfCurve.f k l1).bind fun bt478 => (if bt473.2.2.2 = true then (if bt478.2.2.2 = true then ((spec_l1In.f a2 (-20) 20).bind fun t483 => (spec_TwistCurve.j0 k l1 a2 bt473.2.2.1 bt478.2.2.1 (!t483) bt473.1 bt473.2.1 bt478.1 bt478.2.1)) else (spec_TwistCurve.j0 k l1 a2 bt473.2.2.1 bt478.2.2.1 true bt473.1 bt473.2.1 bt478.1 bt478.2.1)) else (spec_TwistCurve.j0 k l1 a2 bt473.2.2.1 bt478.2.2.1 true bt473.1 bt473.2.1 bt478.1 bt478.2.1)))) = some (r1, r2) := h
 clear h
 replace H := Option.bind_eq_some_iff.mp H
 obtain ⟨⟨t473, t474, t475, t476⟩, A40, H⟩ := H
 try dsimp only at H
 have A4 := Az.mk A40
 clear A40
 replace H := Option.bind_eq_some_iff.mp H
 obtain ⟨⟨t478, t479, t480, t481⟩, A50, H⟩ := H
 try dsimp only at H
 have A5 := Az.mk A50
 clear A50
 have HC6 := Az.mk H
 clear H
 go_enter Try.func17, Try.ntmps17
 go_upto_region 3 with (first | ((with_reducible refine gtC (f := 8) rfl ?_); refine goesL_ (some 22) rfl rfl Try.func8 (by kernel_rfl) rfl #[.slice A0 l0.length c0] rfl ln_31 ?_; (with_reducible refine (spec_SlopeOfCurve.calls k _ _ l0 t473 t474 t475 t476 _ ?side1 ?side2 A4.out).mono ?_); (case side1 => repeat (first | exact HR0.out | (with_reducible refine Kd.C_alloc ?_ _) | (with_reducible refine Kd.C_drewN ?_ _) | (with_reducible refine Kd.C_drew ?_))); (case side2 => exact HC0.out); rintro e w7 ⟨rfl, hb⟩; refine ⟨_, rfl, ?_⟩; have n0_ := Az.mk (bwT bw_31 hb); clear HB; have HB := n0_; clear n0_; (try clear hb); (try clear hb2); (try clear hk); (try clear hi)) | ((with_reducible refine gtD (N := 8) rfl ?_); refine bxE ?hg (N := 8) ?hd (cs := #[.int .i64 0, .int .i64 0]) (t := 24) ?hr ?_; (case hd => rfl); (case hg => rfl); (case hr => first | (go_simp; done) | (go_simp; rfl)); intro gb477 hg w8 hbox hb; have n0_ := Az.mk (bwT bw_31 hb); have n1_ := Az.mk (hbox); have n2_ := Az.mk ((by rw [hg]; exact (bwZ bw_31) : w.heap.size ≤ gb477)); have n3_ := n2_; clear HB; have HB := n0_; have BK477 := n1_; have GW477 := n2_; have GE477 := n3_; clear n0_ n1_ n2_ n3_; clear hb hbox hg; have hcz9_0 : w8.cell? ⟨gb477, 0, none⟩ = some (.int .i64 0) := (bkC BK477.out 0).trans rfl; have hcz9_1 : w8.cell? ⟨gb477, 1, none⟩ = some (.int .i64 0) := (bkC BK477.out 1).trans rfl; have hfz9_0 := bkF BK477.out 0; have hfz9_1 := bkF BK477.out 1) | ((with_reducible refine gtC (f := 8) rfl ?_); refine goesL_ (some 28) rfl rfl Try.func8 (by kernel_rfl) rfl #[.slice A1 l1.length c1] rfl ln_31 ?_; (with_reducible refine (spec_SlopeOfCurve.calls k _ _ l1 t478 t479 t480 t481 _ ?side1 ?side2 A5.out).mono ?_); (case side1 => exact Kd.C_below HR1.out bw_31); (case side2 => exact HC1.out); rintro e w10 ⟨rfl, hb⟩; refine ⟨_, rfl, ?_⟩; have n0_ := Az.mk (bkB (g := gb477) (o := .cells #[.int .i64 t473, .int .i64 t474] 24 (0, 0)) (by (with_reducible repeat (first | refine bkN ?_ _ | refine bkD ?_ | refine bkA ?_ _)); refine bkp (cs := #[.int .i64 t473, .int .i64 0]) ?_ 1 _ rfl; (with_reducible repeat (first | refine bkN ?_ _ | refine bkD ?_ | refine bkA ?_ _)); refine bkp (cs := #[.int .i64 0, .int .i64 0]) ?_ 0 _ rfl; (with_reducible repeat (first | refine bkN ?_ _ | refine bkD ?_ | refine bkA ?_ _)); exact BK477.out) hb); have n1_ := Az.mk (bwT bw_31 hb); clear BK477; clear HB; have BK477 := n0_; have HB := n1_; clear n0_ n1_; (try clear hb); (try clear hb2); (try clear hk); (try clear hi)) | ((with_reducible refine gtD (N := 11) rfl ?_); refine bxE ?hg (N := 11) ?hd (cs := #[.int .i64 0, .int .i64 0]) (t := 24) ?hr ?_; (case hd => rfl); (case hg => rfl); (case hr => first | (go_simp; done) | (go_simp; rfl)); intro gb482 hg w11 hbox hb; have n0_ := Az.mk (bkB (g := gb477) (o := .cells #[.int .i64 t473, .int .i64 t474] 24 (0, 0)) (by (with_reducible repeat (first | refine bkN ?_ _ | refine bkD ?_ | refine bkA ?_ _)); exact BK477.out) hb); have n1_ := Az.mk (bwT bw_31 hb); have n2_ := Az.mk (hbox); have n3_ := Az.mk ((by rw [hg]; exact (bwZ bw_31) : w.heap.size ≤ gb482)); have n4_ := n3_; have n5_ := Az.mk ((by rw [hg]; exact Nat.ne_of_lt (blk_lt (g := gb477) (o := .cells #[.int .i64 t473, .int .i64 t474] 24 (0, 0)) (by (with_reducible repeat (first | refine bkN ?_ _ | refine bkD ?_ | refine bkA ?_ _)); exact BK477.out)) : gb477 ≠ gb482)); have n6_ := Az.mk ((by rw [hg]; exact Nat.ne_of_gt (blk_lt (g := gb477) (o := .cells #[.int .i64 t473, .int .i64 t474] 24 (0, 0)) (by (with_reducible repeat (first | refine bkN ?_ _ | refine bkD ?_ | refine bkA ?_ _)); exact BK477.out)) : gb482 ≠ gb477)); clear BK477; clear HB; have BK477 := n0_; have HB := n1_; have BK482 := n2_; have GW482 := n3_; have GE482 := n4_; have NB477_482 := n5_; have NB482_477 := n6_; clear n0_ n1_ n2_ n3_ n4_ n5_ n6_; clear hb hbox hg; have hnb12 := NB482_477.out; have hnc12 := NB477_482.out; have hcz13_0 : w11.cell? ⟨gb482, 0, none⟩ = some (.int .i64 0) := (bkC BK482.out 0).trans rfl; have hcz13_1 : w11.cell? ⟨gb482, 1, none⟩ = some (.int .i64 0) := (bkC BK482.out 1).trans rfl; have hfz13_0 := bkF BK482.out 0; have hfz13_1 := bkF BK482.out 1))
 (try simp only [Act.put, List.setIfInBounds_toArray, List.set_cons_zero, List.set_cons_succ])
 go_cut [42] (fun v42 wc => ∃ (kq : Nat) (x42_5 : Bool), v42 = .bool x42_5 ∧ Az (spec_TwistCurve.j0 kq l1 a2 t475 t480 x42_5 t473 t474 t478 t479 = some (r1, r2)) ∧ Az (kq ≤ k) ∧ Az (wc.heap[gb477]? = some (.cells #[.int .i64 t473, .int .i64 t474] 24 (0, 0))) ∧ Az (wc.heap[gb482]? = some (.cells #[.int .i64 t478, .int .i64 t479] 24 (0, 0))) ∧ Az (Below w.heap.size w wc))
 case first =>
  have H := HC6.out
  clear HC6
  by_cases c14 : t476 = true
  rotate_left
  ·replace c14 := Bool.eq_false_iff.mpr c14
   subst c14
   have H1 : (spec_TwistCurve.j0 k l1 a2 t475 t480 true t473 t474 t478 t479) = some (r1, r2) := by rw [if_neg (show ¬ (false = true) by decide)] at H; exact H
   clear H
   have H := H1
   clear H1
   have H' := Az.mk H
   clear H
   go_wp2
   go_meet
   case rel => exact ⟨_, (true), (by first | rfl | (simp; done) | (simp [*]; done)), H', ⟨by first | omega | exact Nat.le_refl _⟩, ⟨by (with_reducible repeat (first | refine bkN ?_ _ | refine bkD ?_ | refine bkA ?_ _)); refine bkf ?_ NB477_482.out _; (with_reducible repeat (first | refine bkN ?_ _ | refine bkD ?_ | refine bkA ?_ _)); refine bkf ?_ NB477_482.out _; (with_reducible repeat (first | refine bkN ?_ _ | refine bkD ?_ | refine bkA ?_ _)); exact BK477.out⟩, ⟨by (with_reducible repeat (first | refine bkN ?_ _ | refine bkD ?_ | refine bkA ?_ _)); refine bkp (cs := #[.int .i64 t478, .int .i64 0]) ?_ 1 _ rfl; (with_reducible repeat (first | refine bkN ?_ _ | refine bkD ?_ | refine bkA ?_ _)); refine bkp (cs := #[.int .i64 0, .int .i64 0]) ?_ 0 _ rfl; (with_reducible repeat (first | refine bkN ?_ _ | refine bkD ?_ | refine bkA ?_ _)); exact BK482.out⟩, ⟨by repeat (first | (with_reducible first | exact HB.out | apply bwA | apply pbN | apply bwD | refine bwS ?_ GE477.out | refine bwS ?_ GE482.out) | exact HB.out)⟩⟩
  subst c14
  have H1 : (if t481 = true then ((spec_l1In.f a2 (-20) 20).bind fun t483 => (spec_TwistCurve.j0 k l1 a2 t475 t480 (!t483) t473 t474 t478 t479)) else (spec_TwistCurve.j0 k l1 a2 t475 t480 true t473 t474 t478 t479)) = some (r1, r2) := by rw [if_pos rfl] at H; exact H
  clear H
  have H := H1
  clear H1
  by_cases c15 : t481 = true
  rotate_left
  ·replace c15 := Bool.eq_false_iff.mpr c15
   subst c15
   have H1 : (spec_TwistCurve.j0 k l1 a2 t475 t480 true t473 t474 t478 t479) = some (r1, r2) := by rw [if_neg (show ¬ (false = true) by decide)] at H; exact H
   clear H
   have H := H1
   clear H1
   have H' := Az.mk H
   clear H
   go_wp2
   go_meet
   case rel => exact ⟨_, (true), (by first | rfl | (simp; done) | (simp [*]; done)), H', ⟨by first | omega | exact Nat.le_refl _⟩, ⟨by (with_reducible repeat (first | refine bkN ?_ _ | refine bkD ?_ | refine bkA ?_ _)); refine bkf ?_ NB477_482.out _; (with_reducible repeat (first | refine bkN ?_ _ | refine bkD ?_ | refine bkA ?_ _)); refine bkf ?_ NB477_482.out _; (with_reducible repeat (first | refine bkN ?_ _ | refine bkD ?_ | refine bkA ?_ _)); exact BK477.out⟩, ⟨by (with_reducible repeat (first | refine bkN ?_ _ | refine bkD ?_ | refine bkA ?_ _)); refine bkp (cs := #[.int .i64 t478, .int .i64 0]) ?_ 1 _ rfl; (with_reducible repeat (first | refine bkN ?_ _ | refine bkD ?_ | refine bkA ?_ _)); refine bkp (cs := #[.int .i64 0, .int .i64 0]) ?_ 0 _ rfl; (with_reducible repeat (first | refine bkN ?_ _ | refine bkD ?_ | refine bkA ?_ _)); exact BK482.out⟩, ⟨by repeat (first | (with_reducible first | exact HB.out | apply bwA | apply pbN | apply bwD | refine bwS ?_ GE477.out | refine bwS ?_ GE482.out) | exact HB.out)⟩⟩
  subst c15
  have H1 : ((spec_l1In.f a2 (-20) 20).bind fun t483 => (spec_TwistCurve.j0 k l1 a2 t475 t480 (!t483) t473 t474 t478 t479)) = some (r1, r2) := by rw [if_pos rfl] at H; exact H
  clear H
  have H := H1
  clear H1
  replace H := Option.bind_eq_some_iff.mp H
  obtain ⟨t483, A160, H⟩ := H
  try dsimp only at H
  have A16 := Az.mk A160
  clear A160
  have H' := Az.mk H
  clear H
  go_wp2_with (first | (go_at_call 49; (with_reducible refine (spec_l1In.calls a2 (-20) 20 t483 _ A16.out).mono ?_); rintro e w' ⟨rfl, ⟨nd, rfl⟩⟩))
  go_meet
  case rel => exact ⟨_, (!t483), (by first | rfl | (simp; done) | (simp [*]; done)), H', ⟨by first | omega | exact Nat.le_refl _⟩, ⟨by (with_reducible repeat (first | refine bkN ?_ _ | refine bkD ?_ | refine bkA ?_ _)); refine bkf ?_ NB477_482.out _; (with_reducible repeat (first | refine bkN ?_ _ | refine bkD ?_ | refine bkA ?_ _)); refine bkf ?_ NB477_482.out _; (with_reducible repeat (first | refine bkN ?_ _ | refine bkD ?_ | refine bkA ?_ _)); exact BK477.out⟩, ⟨by (with_reducible repeat (first | refine bkN ?_ _ | refine bkD ?_ | refine bkA ?_ _)); refine bkp (cs := #[.int .i64 t478, .int .i64 0]) ?_ 1 _ rfl; (with_reducible repeat (first | refine bkN ?_ _ | refine bkD ?_ | refine bkA ?_ _)); refine bkp (cs := #[.int .i64 0, .int .i64 0]) ?_ 0 _ rfl; (with_reducible repeat (first | refine bkN ?_ _ | refine bkD ?_ | refine bkA ?_ _)); exact BK482.out⟩, ⟨by repeat (first | (with_reducible first | exact HB.out | apply bwA | apply pbN | apply bwD | refine bwS ?_ GE477.out | refine bwS ?_ GE482.out) | exact HB.out)⟩⟩
 case rest =>
  clear HC6
  try clear c1
  try clear p2
  try clear c8
  try clear c12
  try clear c14
  try clear c15
  try clear hcz13_0
  try clear hcz13_1
  try clear hcz9_0
  try clear hcz9_1
  try clear hfz13_0
  try clear hfz13_1
  try clear hfz9_0
  try clear hfz9_1
  obtain ⟨kq, x42_5, rfl, HA, HJ5, BK477, BK482, HB⟩ := hcut
  cases kq with
  | zero => exact absurd HA.out (by simp [spec_TwistCurve.j0])
  | succ kj5 =>
   have H := HA.out
   clear HA
   simp only [spec_TwistCurve.j0] at H
   by_cases c17 : x42_5 = true
   ·subst c17
    have H1 : (some ((([] : List Int)), false)) = some (r1, r2) := by rw [if_pos rfl] at H; exact H
    clear H
    have H := H1
    clear H1
    obtain ⟨y484, hy484⟩ : ∃ y_ : List Int, y_ = (([] : List Int)) := ⟨_, rfl⟩
    replace H : (some (y484, false)) = some (r1, r2) := by first | (rw [hy484]; with_reducible exact H) | (have H2_ := (Option.bind_some _ _).symm.trans H; rw [hy484]; with_reducible exact H2_) | (have H2_ := (Option.bind_some _ _).symm.trans H; with_reducible exact H2_) | with_reducible exact H | (rw [hy484]; exact H) | exact H
    have Ny484 := Az.mk hy484
    clear hy484
    simp only [Option.some.injEq, Prod.mk.injEq] at H
    obtain ⟨rfl, rfl⟩ := H
    go_wp2_with (first | ((with_reducible refine gtD (N := 43) rfl ?_); refine Kd.R_lit (Kd.int .i64) _ 3 ?hg (N := 43) ?hd (xs := ([] : List Int)) (inner := []) (ok := fun _ => True) (okp := fun _ => True) ?hr ?hp (fun _ hk => hk) trivial (Below.refl _ _) (Nat.le_refl _) (by simp) ?_; (case hd => rfl); (case hg => rfl); (case hr => first | (go_simp; done) | (go_simp; rfl)); (case hp => exact (Reps.none _ _)); intro v485 w18 ho19 hb hg_ hnew_; clear hg_ hnew_; (first | rw [← Ny484.out] at ho19 | (simp only [Int.reduceToNat] at ho19; rw [← Ny484.out] at ho19)); have n0_ := Az.mk (Kd.R_lower ho19 (bwZ bw_31)); have n1_ := Az.mk (bkB (g := gb477) (o := .cells #[.int .i64 t473, .int .i64 t474] 24 (0, 0)) (by (with_reducible repeat (first | refine bkN ?_ _ | refine bkD ?_ | refine bkA ?_ _)); exact BK477.out) hb); have n2_ := Az.mk (bkB (g := gb482) (o := .cells #[.int .i64 t478, .int .i64 t479] 24 (0, 0)) (by (with_reducible repeat (first | refine bkN ?_ _ | refine bkD ?_ | refine bkA ?_ _)); exact BK482.out) hb); have n3_ := Az.mk (bwT bw_31 hb); clear BK477; clear BK482; clear HB; have HO486 := n0_; have BK477 := n1_; have BK482 := n2_; have HB := n3_; clear n0_ n1_ n2_ n3_; clear hb ho19))
    go_ret2
    exact ⟨_, by first | rfl | (simp [eWn, eWs] <;> rfl) | (simp [*, eWn, eWs] <;> rfl), by (with_reducible repeat (first | apply Kd.R_alloc | apply Kd.R_drewN | apply Kd.R_drew)); exact HO486.out, bw_31⟩
   replace c17 := Bool.eq_false_iff.mpr c17
   subst c17
   have H1 : (if t475 = 0 then (spec_TwistCurve.j1 kj5 l1 a2 t475 t480 true t473 t474 t478 t479) else (spec_TwistCurve.j1 kj5 l1 a2 t475 t480 (t480 == 0) t473 t474 t478 t479)) = some (r1, r2) := by rw [if_neg (show ¬ (false = true) by decide)] at H; exact H
   clear H
   have H := H1
   clear H1
   have HC20 := Az.mk H
   clear H
   go_upto_region 5 with (fail)
   go_cut [49] (fun v49 wc => ∃ (kq : Nat) (x49_19 : Bool), v49 = .bool x49_19 ∧ Az (spec_TwistCurve.j1 kq l1 a2 t475 t480 x49_19 t473 t474 t478 t479 = some (r1, r2)) ∧ Az (kq ≤ kj5) ∧ Az (wc.heap[gb477]? = some (.cells #[.int .i64 t473, .int .i64 t474] 24 (0, 0))) ∧ Az (wc.heap[gb482]? = some (.cells #[.int .i64 t478, .int .i64 t479] 24 (0, 0))) ∧ Az (Below w.heap.size w wc))
   case first =>
    have H := HC20.out
    clear HC20
    by_cases c21 : t475 = 0
    rotate_left
    ·rw [if_neg c21] at H
     have c21b0 : (t475 == 0) = false := beq_eq_false_iff_ne.mpr c21
     have c21b1 : (t475 != 0) = true := bne_iff_ne.mpr c21
     (first | rw [c21b0] | (simp only [i64_w, i32_w]; rw [c21b0]) | skip)
     have H' := Az.mk H
     clear H
     go_wp2
     go_meet
     case rel => exact ⟨_, ((t480 == 0)), (by first | rfl | (simp; done) | (simp [*]; done)), H', ⟨by have := HJ5.out; first | omega | exact Nat.le_refl _⟩, ⟨by (with_reducible repeat (first | refine bkN ?_ _ | refine bkD ?_ | refine bkA ?_ _)); exact BK477.out⟩, ⟨by (with_reducible repeat (first | refine bkN ?_ _ | refine bkD ?_ | refine bkA ?_ _)); exact BK482.out⟩, ⟨by repeat (first | (with_reducible first | exact HB.out | apply bwA | apply pbN | apply bwD | refine bwS ?_ GE477.out | refine bwS ?_ GE482.out) | exact HB.out)⟩⟩
    rw [if_pos c21] at H
    have c21b0 : (t475 == 0) = true := beq_iff_eq.mpr c21
    have c21b1 : (t475 != 0) = false := bne_eq_false_iff_eq.mpr c21
    clear c21
    (first | rw [c21b0] | (simp only [i64_w, i32_w]; rw [c21b0]) | skip)
    have H' := Az.mk H
    clear H
    go_wp2
    go_meet
    case rel => exact ⟨_, (true), (by first | rfl | (simp; done) | (simp [*]; done)), H', ⟨by have := HJ5.out; first | omega | exact Nat.le_refl _⟩, ⟨by (with_reducible repeat (first | refine bkN ?_ _ | refine bkD ?_ | refine bkA ?_ _)); exact BK477.out⟩, ⟨by (with_reducible repeat (first | refine bkN ?_ _ | refine bkD ?_ | refine bkA ?_ _)); exact BK482.out⟩, ⟨by repeat (first | (with_reducible first | exact HB.out | apply bwA | apply pbN | apply bwD | refine bwS ?_ GE477.out | refine bwS ?_ GE482.out) | exact HB.out)⟩⟩
   case rest =>
    clear HC20
    try clear c1
    try clear c2
    try clear p2
    try clear c8
    try clear c12
    try clear c14
    try clear c15
    try clear c17
    try clear c21
    try clear c21b0
    try clear c21b1
    try clear hcz13_0
    try clear hcz13_1
    try clear hcz9_0
    try clear hcz9_1
    try clear hfz13_0
    try clear hfz13_1
    try clear hfz9_0
    try clear hfz9_1
    try clear p2
    obtain ⟨kq, x49_19, rfl, HA, HJ19, BK477, BK482, HB⟩ := hcut
    cases kq with
    | zero => exact absurd HA.out (by simp [spec_TwistCurve.j1])
    | succ kj19 =>
     have H := HA.out
     clear HA
     simp only [spec_TwistCurve.j1] at H
     by_cases c22 : x49_19 = true
     ·subst c22
      have H1 : ((spec_l17Tri.f).bind fun t487 => ((spec_PlainCurve.f kj19 t487 l1).bind fun bt490 => (some (bt490.1, bt490.2)))) = some (r1, r2) := by rw [if_pos rfl] at H; exact H
      clear H
      have H := H1
      clear H1
      replace H := Option.bind_eq_some_iff.mp H
      obtain ⟨t487, A230, H⟩ := H
      try dsimp only at H
      have A23 := Az.mk A230
      clear A230
      replace H := Option.bind_eq_some_iff.mp H
      obtain ⟨⟨t490, t491⟩, A240, H⟩ := H
      try dsimp only at H
      have A24 := Az.mk A240
      clear A240
      simp only [Option.some.injEq, Prod.mk.injEq] at H
      obtain ⟨rfl, rfl⟩ := H
      go_wp2_with (first | ((with_reducible refine gtC (f := 37) rfl ?_); refine goesL_ (some 51) rfl rfl Try.func37 (by kernel_rfl) rfl #[] rfl ln_31 ?_; (with_reducible refine (spec_l17Tri.calls  t487 _ A23.out).mono ?_); rintro e w25 ⟨v488, rfl, ho0, hb⟩; refine ⟨_, rfl, ?_⟩; have n0_ := Az.mk (Kd.N_lower (Kd.N_mono (ok' := fun k_ => k_ ≠ gb477 ∧ k_ ≠ gb482) ho0 (fun k_ hk_ => ⟨(Kd.freshB (g := gb477) (o := .cells #[.int .i64 t473, .int .i64 t474] 24 (0, 0)) (by (with_reducible repeat (first | refine bkN ?_ _ | refine bkD ?_ | refine bkA ?_ _)); exact BK477.out) k_ hk_), (Kd.freshB (g := gb482) (o := .cells #[.int .i64 t478, .int .i64 t479] 24 (0, 0)) (by (with_reducible repeat (first | refine bkN ?_ _ | refine bkD ?_ | refine bkA ?_ _)); exact BK482.out) k_ hk_)⟩)) (bwZ bw_31)); have n1_ := Az.mk (bkB (g := gb477) (o := .cells #[.int .i64 t473, .int .i64 t474] 24 (0, 0)) (by (with_reducible repeat (first | refine bkN ?_ _ | refine bkD ?_ | refine bkA ?_ _)); exact BK477.out) hb); have n2_ := Az.mk (bkB (g := gb482) (o := .cells #[.int .i64 t478, .int .i64 t479] 24 (0, 0)) (by (with_reducible repeat (first | refine bkN ?_ _ | refine bkD ?_ | refine bkA ?_ _)); exact BK482.out) hb); have n3_ := Az.mk (bwT bw_31 hb); clear BK477; clear BK482; clear HB; have HO489 := n0_; have BK477 := n1_; have BK482 := n2_; have HB := n3_; clear n0_ n1_ n2_ n3_; (try clear hb); (try clear hb2); (try clear hk); (try clear hi); (try clear ho0); obtain ⟨Ao26, co26, eo26⟩ := Kd.N_slice HO489.out; subst eo26) | ((with_reducible refine gtC (f := 30) rfl ?_); refine goesL_ (some 53) rfl rfl Try.func30 (by kernel_rfl) rfl #[.slice Ao26 t487.length co26, .slice A1 l1.length c1] rfl ln_31 ?_; (with_reducible refine (spec_PlainCurve.calls kj19 _ _ t487 _ _ l1 t490 t491 _ ?side1 ?side2 ?side3 ?side4 A24.out).mono ?_); (case side1 => repeat (first | exact (Kd.N_reads' HO489.out).2.2 | (with_reducible refine Kd.C_alloc ?_ _) | (with_reducible refine Kd.C_drewN ?_ _) | (with_reducible refine Kd.C_drew ?_))); (case side2 => exact (Kd.N_reads' HO489.out).2.1); (case side3 => repeat (first | exact (Kd.C_below HR1.out HB.out) | (with_reducible refine Kd.C_alloc ?_ _) | (with_reducible refine Kd.C_drewN ?_ _) | (with_reducible refine Kd.C_drew ?_))); (case side4 => exact HC1.out); rintro e w27 ⟨v492, rfl, ho0, hb⟩; refine ⟨_, rfl, ?_⟩; have n0_ := Az.mk (Kd.N_elder' (by (with_reducible repeat (first | apply Kd.N_alloc | apply Kd.N_drewN | apply Kd.N_drew)); exact HO489.out) (Kd.R_base ho0) hb); have n1_ := Az.mk (Kd.R_lower ho0 (bwZ bw_31)); have n2_ := Az.mk (bkB (g := gb477) (o := .cells #[.int .i64 t473, .int .i64 t474] 24 (0, 0)) (by (with_reducible repeat (first | refine bkN ?_ _ | refine bkD ?_ | refine bkA ?_ _)); exact BK477.out) hb); have n3_ := Az.mk (bkB (g := gb482) (o := .cells #[.int .i64 t478, .int .i64 t479] 24 (0, 0)) (by (with_reducible repeat (first | refine bkN ?_ _ | refine bkD ?_ | refine bkA ?_ _)); exact BK482.out) hb); have n4_ := Az.mk (bwT bw_31 hb); clear HO489; clear BK477; clear BK482; clear HB; have HO489 := n0_; have HO493 := n1_; have BK477 := n2_; have BK482 := n3_; have HB := n4_; clear n0_ n1_ n2_ n3_ n4_; (try clear hb); (try clear hb2); (try clear hk); (try clear hi); (try clear ho0)))
      go_ret2
      exact ⟨_, by first | rfl | (simp [eWn, eWs] <;> rfl) | (simp [*, eWn, eWs] <;> rfl), by (with_reducible repeat (first | apply Kd.R_alloc | apply Kd.R_drewN | apply Kd.R_drew)); exact HO493.out, bw_31⟩
     replace c22 := Bool.eq_false_iff.mpr c22
     subst c22
     have H1 : ((spec_TwistSlope.f kj19 t473 t474 t478 t479 (wrap64 (a2 * t475))).bind fun bt494 => (if bt494.2.2 = true then (if t480 > 20 then (some ((([] : List Int)), false)) else ((spec_CurveOfSlope.f kj19 bt494.1 bt494.2.1 t480).bind fun bt501 => (some (bt501.1, bt501.2)))) else (some ((([] : List Int)), false)))) = some (r1, r2) := by rw [if_neg (show ¬ (false = true) by decide)] at H; exact H
     clear H
     have H := H1
     clear H1
     replace H := Option.bind_eq_some_iff.mp H
     obtain ⟨⟨t494, t495, t496⟩, A280, H⟩ := H
     try dsimp only at H
     have A28 := Az.mk A280
     clear A280
     by_cases c29 : t496 = true
     rotate_left
     ·replace c29 := Bool.eq_false_iff.mpr c29
      subst c29
      have H1 : (some ((([] : List Int)), false)) = some (r1, r2) := by rw [if_neg (show ¬ (false = true) by decide)] at H; exact H
      clear H
      have H := H1
      clear H1
      obtain ⟨y505, hy505⟩ : ∃ y_ : List Int, y_ = (([] : List Int)) := ⟨_, rfl⟩
      replace H : (some (y505, false)) = some (r1, r2) := by first | (rw [hy505]; with_reducible exact H) | (have H2_ := (Option.bind_some _ _).symm.trans H; rw [hy505]; with_reducible exact H2_) | (have H2_ := (Option.bind_some _ _).symm.trans H; with_reducible exact H2_) | with_reducible exact H | (rw [hy505]; exact H) | exact H
      have Ny505 := Az.mk hy505
      clear hy505
      simp only [Option.some.injEq, Prod.mk.injEq] at H
      obtain ⟨rfl, rfl⟩ := H
      have hnb51 := NB477_482.out
      have hnc51 := NB482_477.out
      have hcz52_0 : wc.cell? ⟨gb477, 0, none⟩ = some (.int .i64 t473) := (bkC BK477.out 0).trans rfl
      have hcz52_1 : wc.cell? ⟨gb477, 1, none⟩ = some (.int .i64 t474) := (bkC BK477.out 1).trans rfl
      have hfz52_0 := bkF BK477.out 0
      have hfz52_1 := bkF BK477.out 1
      have hcz53_0 : wc.cell? ⟨gb482, 0, none⟩ = some (.int .i64 t478) := (bkC BK482.out 0).trans rfl
      have hcz53_1 : wc.cell? ⟨gb482, 1, none⟩ = some (.int .i64 t479) := (bkC BK482.out 1).trans rfl
      have hfz53_0 := bkF BK482.out 0
      have hfz53_1 := bkF BK482.out 1
      go_wp2_with (first | ((with_reducible refine gtC (f := 50) rfl ?_); refine goesL_ (some 64) rfl rfl Try.func50 (by kernel_rfl) rfl #[.agg #[.int .i64 t473, .int .i64 t474], .agg #[.int .i64 t478, .int .i64 t479], .int .i64 (wrap64 (a2 * t475))] rfl ln_31 ?_; (with_reducible refine (spec_TwistSlope.calls kj19 t473 t474 t478 t479 (wrap64 (a2 * t475)) t494 t495 false _ A28.out).mono ?_); rintro e w54 ⟨rfl, hb⟩; refine ⟨_, rfl, ?_⟩; have n0_ := Az.mk (bkB (g := gb477) (o := .cells #[.int .i64 t473, .int .i64 t474] 24 (0, 0)) (by (with_reducible repeat (first | refine bkN ?_ _ | refine bkD ?_ | refine bkA ?_ _)); exact BK477.out) hb); have n1_ := Az.mk (bkB (g := gb482) (o := .cells #[.int .i64 t478, .int .i64 t479] 24 (0, 0)) (by (with_reducible repeat (first | refine bkN ?_ _ | refine bkD ?_ | refine bkA ?_ _)); exact BK482.out) hb); have n2_ := Az.mk (bwT bw_31 hb); clear BK477; clear BK482; clear HB; have BK477 := n0_; have BK482 := n1_; have HB := n2_; clear n0_ n1_ n2_; (try clear hb); (try clear hb2); (try clear hk); (try clear hi)) | ((with_reducible refine gtD (N := 16) rfl ?_); refine bxE ?hg (N := 16) ?hd (cs := #[.int .i64 0, .int .i64 0]) (t := 24) ?hr ?_; (case hd => rfl); (case hg => rfl); (case hr => first | (go_simp; done) | (go_simp; rfl)); intro gb497 hg w55 hbox hb; have n0_ := Az.mk (bkB (g := gb477) (o := .cells #[.int .i64 t473, .int .i64 t474] 24 (0, 0)) (by (with_reducible repeat (first | refine bkN ?_ _ | refine bkD ?_ | refine bkA ?_ _)); exact BK477.out) hb); have n1_ := Az.mk (bkB (g := gb482) (o := .cells #[.int .i64 t478, .int .i64 t479] 24 (0, 0)) (by (with_reducible repeat (first | refine bkN ?_ _ | refine bkD ?_ | refine bkA ?_ _)); exact BK482.out) hb); have n2_ := Az.mk (bwT bw_31 hb); have n3_ := Az.mk (hbox); have n4_ := Az.mk ((by rw [hg]; exact (bwZ bw_31) : w.heap.size ≤ gb497)); have n5_ := n4_; have n6_ := Az.mk ((by rw [hg]; exact Nat.ne_of_lt (blk_lt (g := gb477) (o := .cells #[.int .i64 t473, .int .i64 t474] 24 (0, 0)) (by (with_reducible repeat (first | refine bkN ?_ _ | refine bkD ?_ | refine bkA ?_ _)); exact BK477.out)) : gb477 ≠ gb497)); have n7_ := Az.mk ((by rw [hg]; exact Nat.ne_of_gt (blk_lt (g := gb477) (o := .cells #[.int .i64 t473, .int .i64 t474] 24 (0, 0)) (by (with_reducible repeat (first | refine bkN ?_ _ | refine bkD ?_ | refine bkA ?_ _)); exact BK477.out)) : gb497 ≠ gb477)); have n8_ := Az.mk ((by rw [hg]; exact Nat.ne_of_lt (blk_lt (g := gb482) (o := .cells #[.int .i64 t478, .int .i64 t479] 24 (0, 0)) (by (with_reducible repeat (first | refine bkN ?_ _ | refine bkD ?_ | refine bkA ?_ _)); exact BK482.out)) : gb482 ≠ gb497)); have n9_ := Az.mk ((by rw [hg]; exact Nat.ne_of_gt (blk_lt (g := gb482) (o := .cells #[.int .i64 t478, .int .i64 t479] 24 (0, 0)) (by (with_reducible repeat (first | refine bkN ?_ _ | refine bkD ?_ | refine bkA ?_ _)); exact BK482.out)) : gb497 ≠ gb482)); clear BK477; clear BK482; clear HB; have BK477 := n0_; have BK482 := n1_; have HB := n2_; have BK497 := n3_; have GW497 := n4_; have GE497 := n5_; have NB477_497 := n6_; have NB497_477 := n7_; have NB482_497 := n8_; have NB497_482 := n9_; clear n0_ n1_ n2_ n3_ n4_ n5_ n6_ n7_ n8_ n9_; clear hb hbox hg; have hnb56 := NB497_477.out; have hnc56 := NB477_497.out; have hnb57 := NB497_482.out; have hnc57 := NB482_497.out; have hcz58_0 : w55.cell? ⟨gb497, 0, none⟩ = some (.int .i64 0) := (bkC BK497.out 0).trans rfl; have hcz58_1 : w55.cell? ⟨gb497, 1, none⟩ = some (.int .i64 0) := (bkC BK497.out 1).trans rfl; have hfz58_0 := bkF BK497.out 0; have hfz58_1 := bkF BK497.out 1) | ((with_reducible refine gtD (N := 73) rfl ?_); refine Kd.R_lit (Kd.int .i64) _ 3 ?hg (N := 73) ?hd (xs := ([] : List Int)) (inner := []) (ok := fun _ => True) (okp := fun _ => True) ?hr ?hp (fun _ hk => hk) trivial (Below.refl _ _) (Nat.le_refl _) (by simp) ?_; (case hd => rfl); (case hg => rfl); (case hr => first | (go_simp; done) | (go_simp; rfl)); (case hp => exact (Reps.none _ _)); intro v506 w59 ho60 hb hg_ hnew_; clear hg_ hnew_; (first | rw [← Ny505.out] at ho60 | (simp only [Int.reduceToNat] at ho60; rw [← Ny505.out] at ho60)); have n0_ := Az.mk (Kd.R_lower ho60 (bwZ bw_31)); have n1_ := Az.mk (bkB (g := gb477) (o := .cells #[.int .i64 t473, .int .i64 t474] 24 (0, 0)) (by (with_reducible repeat (first | refine bkN ?_ _ | refine bkD ?_ | refine bkA ?_ _)); refine bkf ?_ NB477_497.out _; (with_reducible repeat (first | refine bkN ?_ _ | refine bkD ?_ | refine bkA ?_ _)); refine bkf ?_ NB477_497.out _; (with_reducible repeat (first | refine bkN ?_ _ | refine bkD ?_ | refine bkA ?_ _)); exact BK477.out) hb); have n2_ := Az.mk (bkB (g := gb482) (o := .cells #[.int .i64 t478, .int .i64 t479] 24 (0, 0)) (by (with_reducible repeat (first | refine bkN ?_ _ | refine bkD ?_ | refine bkA ?_ _)); refine bkf ?_ NB482_497.out _; (with_reducible repeat (first | refine bkN ?_ _ | refine bkD ?_ | refine bkA ?_ _)); refine bkf ?_ NB482_497.out _; (with_reducible repeat (first | refine bkN ?_ _ | refine bkD ?_ | refine bkA ?_ _)); exact BK482.out) hb); have n3_ := Az.mk (bkB (g := gb497) (o := .cells #[.int .i64 t494, .int .i64 t495] 24 (0, 0)) (by (with_reducible repeat (first | refine bkN ?_ _ | refine bkD ?_ | refine bkA ?_ _)); refine bkp (cs := #[.int .i64 t494, .int .i64 0]) ?_ 1 _ rfl; (with_reducible repeat (first | refine bkN ?_ _ | refine bkD ?_ | refine bkA ?_ _)); refine bkp (cs := #[.int .i64 0, .int .i64 0]) ?_ 0 _ rfl; (with_reducible repeat (first | refine bkN ?_ _ | refine bkD ?_ | refine bkA ?_ _)); exact BK497.out) hb); have n4_ := Az.mk (bwT bw_31 hb); clear BK477; clear BK482; clear BK497; clear HB; have HO507 := n0_; have BK477 := n1_; have BK482 := n2_; have BK497 := n3_; have HB := n4_; clear n0_ n1_ n2_ n3_ n4_; clear hb ho60))
      go_ret2
      exact ⟨_, by first | rfl | (simp [eWn, eWs] <;> rfl) | (simp [*, eWn, eWs] <;> rfl), by (with_reducible repeat (first | apply Kd.R_alloc | apply Kd.R_drewN | apply Kd.R_drew)); exact HO507.out, bw_31⟩
     subst c29
     have H1 : (if t480 > 20 then (some ((([] : List Int)), false)) else ((spec_CurveOfSlope.f kj19 t494 t495 t480).bind fun bt501 => (some (bt501.1, bt501.2)))) = some (r1, r2) := by rw [if_pos rfl] at H; exact H
     clear H
     have H := H1
     clear H1
     by_cases c30 : t480 > 20
     ·rw [if_pos c30] at H
      have c30b0 : decide (20 < t480) = true := decide_eq_true c30
      clear c30
      obtain ⟨y498, hy498⟩ : ∃ y_ : List Int, y_ = (([] : List Int)) := ⟨_, rfl⟩
      replace H : (some (y498, false)) = some (r1, r2) := by first | (rw [hy498]; with_reducible exact H) | (have H2_ := (Option.bind_some _ _).symm.trans H; rw [hy498]; with_reducible exact H2_) | (have H2_ := (Option.bind_some _ _).symm.trans H; with_reducible exact H2_) | with_reducible exact H | (rw [hy498]; exact H) | exact H
      have Ny498 := Az.mk hy498
      clear hy498
      simp only [Option.some.injEq, Prod.mk.injEq] at H
      obtain ⟨rfl, rfl⟩ := H
      have hnb31 := NB477_482.out
      have hnc31 := NB482_477.out
      have hcz32_0 : wc.cell? ⟨gb477, 0, none⟩ = some (.int .i64 t473) := (bkC BK477.out 0).trans rfl
      have hcz32_1 : wc.cell? ⟨gb477, 1, none⟩ = some (.int .i64 t474) := (bkC BK477.out 1).trans rfl
      have hfz32_0 := bkF BK477.out 0
      have hfz32_1 := bkF BK477.out 1
      have hcz33_0 : wc.cell? ⟨gb482, 0, none⟩ = some (.int .i64 t478) := (bkC BK482.out 0).trans rfl
      have hcz33_1 : wc.cell? ⟨gb482, 1, none⟩ = some (.int .i64 t479) := (bkC BK482.out 1).trans rfl
      have hfz33_0 := bkF BK482.out 0
      have hfz33_1 := bkF BK482.out 1
      go_wp2_with (first | ((with_reducible refine gtC (f := 50) rfl ?_); refine goesL_ (some 64) rfl rfl Try.func50 (by kernel_rfl) rfl #[.agg #[.int .i64 t473, .int .i64 t474], .agg #[.int .i64 t478, .int .i64 t479], .int .i64 (wrap64 (a2 * t475))] rfl ln_31 ?_; (with_reducible refine (spec_TwistSlope.calls kj19 t473 t474 t478 t479 (wrap64 (a2 * t475)) t494 t495 true _ A28.out).mono ?_); rintro e w34 ⟨rfl, hb⟩; refine ⟨_, rfl, ?_⟩; have n0_ := Az.mk (bkB (g := gb477) (o := .cells #[.int .i64 t473, .int .i64 t474] 24 (0, 0)) (by (with_reducible repeat (first | refine bkN ?_ _ | refine bkD ?_ | refine bkA ?_ _)); exact BK477.out) hb); have n1_ := Az.mk (bkB (g := gb482) (o := .cells #[.int .i64 t478, .int .i64 t479] 24 (0, 0)) (by (with_reducible repeat (first | refine bkN ?_ _ | refine bkD ?_ | refine bkA ?_ _)); exact BK482.out) hb); have n2_ := Az.mk (bwT bw_31 hb); clear BK477; clear BK482; clear HB; have BK477 := n0_; have BK482 := n1_; have HB := n2_; clear n0_ n1_ n2_; (try clear hb); (try clear hb2); (try clear hk); (try clear hi)) | ((with_reducible refine gtD (N := 16) rfl ?_); refine bxE ?hg (N := 16) ?hd (cs := #[.int .i64 0, .int .i64 0]) (t := 24) ?hr ?_; (case hd => rfl); (case hg => rfl); (case hr => first | (go_simp; done) | (go_simp; rfl)); intro gb497 hg w35 hbox hb; have n0_ := Az.mk (bkB (g := gb477) (o := .cells #[.int .i64 t473, .int .i64 t474] 24 (0, 0)) (by (with_reducible repeat (first | refine bkN ?_ _ | refine bkD ?_ | refine bkA ?_ _)); exact BK477.out) hb); have n1_ := Az.mk (bkB (g := gb482) (o := .cells #[.int .i64 t478, .int .i64 t479] 24 (0, 0)) (by (with_reducible repeat (first | refine bkN ?_ _ | refine bkD ?_ | refine bkA ?_ _)); exact BK482.out) hb); have n2_ := Az.mk (bwT bw_31 hb); have n3_ := Az.mk (hbox); have n4_ := Az.mk ((by rw [hg]; exact (bwZ bw_31) : w.heap.size ≤ gb497)); have n5_ := n4_; have n6_ := Az.mk ((by rw [hg]; exact Nat.ne_of_lt (blk_lt (g := gb477) (o := .cells #[.int .i64 t473, .int .i64 t474] 24 (0, 0)) (by (with_reducible repeat (first | refine bkN ?_ _ | refine bkD ?_ | refine bkA ?_ _)); exact BK477.out)) : gb477 ≠ gb497)); have n7_ := Az.mk ((by rw [hg]; exact Nat.ne_of_gt (blk_lt (g := gb477) (o := .cells #[.int .i64 t473, .int .i64 t474] 24 (0, 0)) (by (with_reducible repeat (first | refine bkN ?_ _ | refine bkD ?_ | refine bkA ?_ _)); exact BK477.out)) : gb497 ≠ gb477)); have n8_ := Az.mk ((by rw [hg]; exact Nat.ne_of_lt (blk_lt (g := gb482) (o := .cells #[.int .i64 t478, .int .i64 t479] 24 (0, 0)) (by (with_reducible repeat (first | refine bkN ?_ _ | refine bkD ?_ | refine bkA ?_ _)); exact BK482.out)) : gb482 ≠ gb497)); have n9_ := Az.mk ((by rw [hg]; exact Nat.ne_of_gt (blk_lt (g := gb482) (o := .cells #[.int .i64 t478, .int .i64 t479] 24 (0, 0)) (by (with_reducible repeat (first | refine bkN ?_ _ | refine bkD ?_ | refine bkA ?_ _)); exact BK482.out)) : gb497 ≠ gb482)); clear BK477; clear BK482; clear HB; have BK477 := n0_; have BK482 := n1_; have HB := n2_; have BK497 := n3_; have GW497 := n4_; have GE497 := n5_; have NB477_497 := n6_; have NB497_477 := n7_; have NB482_497 := n8_; have NB497_482 := n9_; clear n0_ n1_ n2_ n3_ n4_ n5_ n6_ n7_ n8_ n9_; clear hb hbox hg; have hnb36 := NB497_477.out; have hnc36 := NB477_497.out; have hnb37 := NB497_482.out; have hnc37 := NB482_497.out; have hcz38_0 : w35.cell? ⟨gb497, 0, none⟩ = some (.int .i64 0) := (bkC BK497.out 0).trans rfl; have hcz38_1 : w35.cell? ⟨gb497, 1, none⟩ = some (.int .i64 0) := (bkC BK497.out 1).trans rfl; have hfz38_0 := bkF BK497.out 0; have hfz38_1 := bkF BK497.out 1) | ((with_reducible refine gtD (N := 73) rfl ?_); refine Kd.R_lit (Kd.int .i64) _ 3 ?hg (N := 73) ?hd (xs := ([] : List Int)) (inner := []) (ok := fun _ => True) (okp := fun _ => True) ?hr ?hp (fun _ hk => hk) trivial (Below.refl _ _) (Nat.le_refl _) (by simp) ?_; (case hd => rfl); (case hg => rfl); (case hr => first | (go_simp; done) | (go_simp; rfl)); (case hp => exact (Reps.none _ _)); intro v499 w39 ho40 hb hg_ hnew_; clear hg_ hnew_; (first | rw [← Ny498.out] at ho40 | (simp only [Int.reduceToNat] at ho40; rw [← Ny498.out] at ho40)); have n0_ := Az.mk (Kd.R_lower ho40 (bwZ bw_31)); have n1_ := Az.mk (bkB (g := gb477) (o := .cells #[.int .i64 t473, .int .i64 t474] 24 (0, 0)) (by (with_reducible repeat (first | refine bkN ?_ _ | refine bkD ?_ | refine bkA ?_ _)); refine bkf ?_ NB477_497.out _; (with_reducible repeat (first | refine bkN ?_ _ | refine bkD ?_ | refine bkA ?_ _)); refine bkf ?_ NB477_497.out _; (with_reducible repeat (first | refine bkN ?_ _ | refine bkD ?_ | refine bkA ?_ _)); exact BK477.out) hb); have n2_ := Az.mk (bkB (g := gb482) (o := .cells #[.int .i64 t478, .int .i64 t479] 24 (0, 0)) (by (with_reducible repeat (first | refine bkN ?_ _ | refine bkD ?_ | refine bkA ?_ _)); refine bkf ?_ NB482_497.out _; (with_reducible repeat (first | refine bkN ?_ _ | refine bkD ?_ | refine bkA ?_ _)); refine bkf ?_ NB482_497.out _; (with_reducible repeat (first | refine bkN ?_ _ | refine bkD ?_ | refine bkA ?_ _)); exact BK482.out) hb); have n3_ := Az.mk (bkB (g := gb497) (o := .cells #[.int .i64 t494, .int .i64 t495] 24 (0, 0)) (by (with_reducible repeat (first | refine bkN ?_ _ | refine bkD ?_ | refine bkA ?_ _)); refine bkp (cs := #[.int .i64 t494, .int .i64 0]) ?_ 1 _ rfl; (with_reducible repeat (first | refine bkN ?_ _ | refine bkD ?_ | refine bkA ?_ _)); refine bkp (cs := #[.int .i64 0, .int .i64 0]) ?_ 0 _ rfl; (with_reducible repeat (first | refine bkN ?_ _ | refine bkD ?_ | refine bkA ?_ _)); exact BK497.out) hb); have n4_ := Az.mk (bwT bw_31 hb); clear BK477; clear BK482; clear BK497; clear HB; have HO500 := n0_; have BK477 := n1_; have BK482 := n2_; have BK497 := n3_; have HB := n4_; clear n0_ n1_ n2_ n3_ n4_; clear hb ho40))
      go_ret2
      exact ⟨_, by first | rfl | (simp [eWn, eWs] <;> rfl) | (simp [*, eWn, eWs] <;> rfl), by (with_reducible repeat (first | apply Kd.R_alloc | apply Kd.R_drewN | apply Kd.R_drew)); exact HO500.out, bw_31⟩
     rw [if_neg c30] at H
     have c30b0 : decide (20 < t480) = false := decide_eq_false c30
     clear c30
     replace H := Option.bind_eq_some_iff.mp H
     obtain ⟨⟨t501, t504⟩, A410, H⟩ := H
     try dsimp only at H
     have A41 := Az.mk A410
     clear A410
     simp only [Option.some.injEq, Prod.mk.injEq] at H
     obtain ⟨rfl, rfl⟩ := H
     have hnb42 := NB477_482.out
     have hnc42 := NB482_477.out
     have hcz43_0 : wc.cell? ⟨gb477, 0, none⟩ = some (.int .i64 t473) := (bkC BK477.out 0).trans rfl
     have hcz43_1 : wc.cell? ⟨gb477, 1, none⟩ = some (.int .i64 t474) := (bkC BK477.out 1).trans rfl
     have hfz43_0 := bkF BK477.out 0
     have hfz43_1 := bkF BK477.out 1
     have hcz44_0 : wc.cell? ⟨gb482, 0, none⟩ = some (.int .i64 t478) := (bkC BK482.out 0).trans rfl
     have hcz44_1 : wc.cell? ⟨gb482, 1, none⟩ = some (.int .i64 t479) := (bkC BK482.out 1).trans rfl
     have hfz44_0 := bkF BK482.out 0
     have hfz44_1 := bkF BK482.out 1
     go_wp2_with (first | ((with_reducible refine gtC (f := 50) rfl ?_); refine goesL_ (some 64) rfl rfl Try.func50 (by kernel_rfl) rfl #[.agg #[.int .i64 t473, .int .i64 t474], .agg #[.int .i64 t478, .int .i64 t479], .int .i64 (wrap64 (a2 * t475))] rfl ln_31 ?_; (with_reducible refine (spec_TwistSlope.calls kj19 t473 t474 t478 t479 (wrap64 (a2 * t475)) t494 t495 true _ A28.out).mono ?_); rintro e w45 ⟨rfl, hb⟩; refine ⟨_, rfl, ?_⟩; have n0_ := Az.mk (bkB (g := gb477) (o := .cells #[.int .i64 t473, .int .i64 t474] 24 (0, 0)) (by (with_reducible repeat (first | refine bkN ?_ _ | refine bkD ?_ | refine bkA ?_ _)); exact BK477.out) hb); have n1_ := Az.mk (bkB (g := gb482) (o := .cells #[.int .i64 t478, .int .i64 t479] 24 (0, 0)) (by (with_reducible repeat (first | refine bkN ?_ _ | refine bkD ?_ | refine bkA ?_ _)); exact BK482.out) hb); have n2_ := Az.mk (bwT bw_31 hb); clear BK477; clear BK482; clear HB; have BK477 := n0_; have BK482 := n1_; have HB := n2_; clear n0_ n1_ n2_; (try clear hb); (try clear hb2); (try clear hk); (try clear hi)) | ((with_reducible refine gtD (N := 16) rfl ?_); refine bxE ?hg (N := 16) ?hd (cs := #[.int .i64 0, .int .i64 0]) (t := 24) ?hr ?_; (case hd => rfl); (case hg => rfl); (case hr => first | (go_simp; done) | (go_simp; rfl)); intro gb497 hg w46 hbox hb; have n0_ := Az.mk (bkB (g := gb477) (o := .cells #[.int .i64 t473, .int .i64 t474] 24 (0, 0)) (by (with_reducible repeat (first | refine bkN ?_ _ | refine bkD ?_ | refine bkA ?_ _)); exact BK477.out) hb); have n1_ := Az.mk (bkB (g := gb482) (o := .cells #[.int .i64 t478, .int .i64 t479] 24 (0, 0)) (by (with_reducible repeat (first | refine bkN ?_ _ | refine bkD ?_ | refine bkA ?_ _)); exact BK482.out) hb); have n2_ := Az.mk (bwT bw_31 hb); have n3_ := Az.mk (hbox); have n4_ := Az.mk ((by rw [hg]; exact (bwZ bw_31) : w.heap.size ≤ gb497)); have n5_ := n4_; have n6_ := Az.mk ((by rw [hg]; exact Nat.ne_of_lt (blk_lt (g := gb477) (o := .cells #[.int .i64 t473, .int .i64 t474] 24 (0, 0)) (by (with_reducible repeat (first | refine bkN ?_ _ | refine bkD ?_ | refine bkA ?_ _)); exact BK477.out)) : gb477 ≠ gb497)); have n7_ := Az.mk ((by rw [hg]; exact Nat.ne_of_gt (blk_lt (g := gb477) (o := .cells #[.int .i64 t473, .int .i64 t474] 24 (0, 0)) (by (with_reducible repeat (first | refine bkN ?_ _ | refine bkD ?_ | refine bkA ?_ _)); exact BK477.out)) : gb497 ≠ gb477)); have n8_ := Az.mk ((by rw [hg]; exact Nat.ne_of_lt (blk_lt (g := gb482) (o := .cells #[.int .i64 t478, .int .i64 t479] 24 (0, 0)) (by (with_reducible repeat (first | refine bkN ?_ _ | refine bkD ?_ | refine bkA ?_ _)); exact BK482.out)) : gb482 ≠ gb497)); have n9_ := Az.mk ((by rw [hg]; exact Nat.ne_of_gt (blk_lt (g := gb482) (o := .cells #[.int .i64 t478, .int .i64 t479] 24 (0, 0)) (by (with_reducible repeat (first | refine bkN ?_ _ | refine bkD ?_ | refine bkA ?_ _)); exact BK482.out)) : gb497 ≠ gb482)); clear BK477; clear BK482; clear HB; have BK477 := n0_; have BK482 := n1_; have HB := n2_; have BK497 := n3_; have GW497 := n4_; have GE497 := n5_; have NB477_497 := n6_; have NB497_477 := n7_; have NB482_497 := n8_; have NB497_482 := n9_; clear n0_ n1_ n2_ n3_ n4_ n5_ n6_ n7_ n8_ n9_; clear hb hbox hg; have hnb47 := NB497_477.out; have hnc47 := NB477_497.out; have hnb48 := NB497_482.out; have hnc48 := NB482_497.out; have hcz49_0 : w46.cell? ⟨gb497, 0, none⟩ = some (.int .i64 0) := (bkC BK497.out 0).trans rfl; have hcz49_1 : w46.cell? ⟨gb497, 1, none⟩ = some (.int .i64 0) := (bkC BK497.out 1).trans rfl; have hfz49_0 := bkF BK497.out 0; have hfz49_1 := bkF BK497.out 1) | ((with_reducible refine gtC (f := 51) rfl ?_); refine goesL_ (some 77) rfl rfl Try.func51 (by kernel_rfl) rfl #[.agg #[.int .i64 t494, .int .i64 t495], .int .i64 t480] rfl ln_31 ?_; (with_reducible refine (spec_CurveOfSlope.calls kj19 t494 t495 t480 t501 t504 _ A41.out).mono ?_); rintro e w50 ⟨v502, rfl, ho0, hb⟩; refine ⟨_, rfl, ?_⟩; have n0_ := Az.mk (Kd.R_lower ho0 (bwZ bw_31)); have n1_ := Az.mk (bkB (g := gb477) (o := .cells #[.int .i64 t473, .int .i64 t474] 24 (0, 0)) (by (with_reducible repeat (first | refine bkN ?_ _ | refine bkD ?_ | refine bkA ?_ _)); refine bkf ?_ NB477_497.out _; (with_reducible repeat (first | refine bkN ?_ _ | refine bkD ?_ | refine bkA ?_ _)); refine bkf ?_ NB477_497.out _; (with_reducible repeat (first | refine bkN ?_ _ | refine bkD ?_ | refine bkA ?_ _)); exact BK477.out) hb); have n2_ := Az.mk (bkB (g := gb482) (o := .cells #[.int .i64 t478, .int .i64 t479] 24 (0, 0)) (by (with_reducible repeat (first | refine bkN ?_ _ | refine bkD ?_ | refine bkA ?_ _)); refine bkf ?_ NB482_497.out _; (with_reducible repeat (first | refine bkN ?_ _ | refine bkD ?_ | refine bkA ?_ _)); refine bkf ?_ NB482_497.out _; (with_reducible repeat (first | refine bkN ?_ _ | refine bkD ?_ | refine bkA ?_ _)); exact BK482.out) hb); have n3_ := Az.mk (bkB (g := gb497) (o := .cells #[.int .i64 t494, .int .i64 t495] 24 (0, 0)) (by (with_reducible repeat (first | refine bkN ?_ _ | refine bkD ?_ | refine bkA ?_ _)); refine bkp (cs := #[.int .i64 t494, .int .i64 0]) ?_ 1 _ rfl; (with_reducible repeat (first | refine bkN ?_ _ | refine bkD ?_ | refine bkA ?_ _)); refine bkp (cs := #[.int .i64 0, .int .i64 0]) ?_ 0 _ rfl; (with_reducible repeat (first | refine bkN ?_ _ | refine bkD ?_ | refine bkA ?_ _)); exact BK497.out) hb); have n4_ := Az.mk (bwT bw_31 hb); clear BK477; clear BK482; clear BK497; clear HB; have HO503 := n0_; have BK477 := n1_; have BK482 := n2_; have BK497 := n3_; have HB := n4_; clear n0_ n1_ n2_ n3_ n4_; (try clear hb); (try clear hb2); (try clear hk); (try clear hi); (try clear ho0)))
     go_ret2
     exact ⟨_, by first | rfl | (simp [eWn, eWs] <;> rfl) | (simp [*, eWn, eWs] <;> rfl), by (with_reducible repeat (first | apply Kd.R_alloc | apply Kd.R_drewN | apply Kd.R_drew)); exact HO503.out, bw_31⟩

/-! ### impl_IsSlope: function 88 -/
def impl_IsSlope.f (k : Nat) (a0_0 : Int) (a0_1 : Int) : Option (Bool) := (impl_within.f a0_0 (-1000) 1000).bind fun t509 => (if t509 = true then ((impl_within.f a0_1 0 1000).bind fun t510 => (if t510 = true then ((impl_gcd.f k a0_0 a0_1).bind fun t511 => (if t511 = 1 then (if a0_1 > 0 then (some true) else (some (a0_0 == 1))) else (some false))) else (some false))) else (some false))
theorem impl_IsSlope.mono : ∀ a0 a1 k, LeO (impl_IsSlope.f k a0 a1) (impl_IsSlope.f (k + 1) a0 a1) := by
 intro a0 a1 k
 unfold impl_IsSlope.f
 repeat' first
   | (with_reducible exact impl_gcd.mono _ _ _)
   | (with_reducible exact LeO.refl _)
   | (with_reducible exact LeO.none _)
   | (with_reducible refine LeO.ite ?_ ?_)
   | (with_reducible refine LeO.bind ?_ (fun _ => ?_))
   | exact impl_gcd.mono _ _ _
   | exact LeO.none _
   | refine LeO.ite ?_ ?_
   | refine LeO.bind ?_ (fun _ => ?_)
set_option maxHeartbeats 8000000 in
set_option maxRecDepth 100000 in
theorem impl_IsSlope.calls (k : Nat) (a0_0 : Int) (a0_1 : Int) (r : Bool) (w : World) (h : impl_IsSlope.f k a0_0 a0_1 = some r) :
  Calls Try.prog 88 #[.agg #[.int .i64 a0_0, .int .i64 a0_1]] w fun e w' => e = .returned (.bool r) ∧ Below w.heap.size w w' := by
 have hu24 := Try.underlying24
 have HB := Az.mk (Below.refl w.heap.size w)
 have H : ((impl_within.f a0_0 (-1000) 1000).bind fun t509 => (if t509 = true then ((impl_within.f a0_1 0 1000).bind fun t510 => (if t510 = true then ((impl_gcd.f k a0_0 a0_1).bind fun t511 => (if t511 = 1 then (if a0_1 > 0 then (some true) else (some (a0_0 == 1))) else (some false))) else (some false))) else (some false))) = some r := h
 clear h
 replace H := Option.bind_eq_some_iff.mp H
 obtain ⟨t509, A20, H⟩ := H
 try dsimp only at H
 have A2 := Az.mk A20
 clear A20
 by_cases c3 : t509 = true
 rotate_left
 ·replace c3 := Bool.eq_false_iff.mpr c3
  subst c3
  have H1 : (some false) = some r := by rw [if_neg (show ¬ (false = true) by decide)] at H; exact H
  clear H
  have H := H1
  clear H1
  obtain rfl := Option.some.inj H
  go_enter Try.func88, Try.ntmps88
  go_wp2_with (first | ((with_reducible refine gtD (N := 1) rfl ?_); refine bxE ?hg (N := 1) ?hd (cs := #[.int .i64 a0_0, .int .i64 a0_1]) (t := 24) ?hr ?_; (case hd => rfl); (case hg => rfl); (case hr => first | (go_simp; done) | (go_simp; rfl)); intro gb508 hg w22 hbox hb; have n0_ := Az.mk (bwT bw_31 hb); have n1_ := Az.mk (hbox); have n2_ := Az.mk ((by rw [hg]; exact (bwZ bw_31) : w.heap.size ≤ gb508)); have n3_ := n2_; clear HB; have HB := n0_; have BK508 := n1_; have GW508 := n2_; have GE508 := n3_; clear n0_ n1_ n2_ n3_; clear hb hbox hg; have hcz23_0 : w22.cell? ⟨gb508, 0, none⟩ = some (.int .i64 a0_0) := (bkC BK508.out 0).trans rfl; have hcz23_1 : w22.cell? ⟨gb508, 1, none⟩ = some (.int .i64 a0_1) := (bkC BK508.out 1).trans rfl; have hfz23_0 := bkF BK508.out 0; have hfz23_1 := bkF BK508.out 1) | ((with_reducible refine gtC (f := 52) rfl ?_); refine goesL_ (some 5) rfl rfl Try.func52 (by kernel_rfl) rfl #[.int .i64 a0_0, .int .i64 (-1000), .int .i64 1000] rfl ln_31 ?_; (with_reducible refine (impl_within.calls a0_0 (-1000) 1000 false _ A2.out).mono ?_); rintro e w' ⟨rfl, ⟨nd, rfl⟩⟩; refine ⟨_, rfl, ?_⟩))
  go_ret
  exact ⟨by first | rfl | (simp [eWn, eWs] <;> rfl) | (simp [*, eWn, eWs] <;> rfl), bw_31⟩
 subst c3
 have H1 : ((impl_within.f a0_1 0 1000).bind fun t510 => (if t510 = true then ((impl_gcd.f k a0_0 a0_1).bind fun t511 => (if t511 = 1 then (if a0_1 > 0 then (some true) else (some (a0_0 == 1))) else (some false))) else (some false))) = some r := by rw [if_pos rfl] at H; exact H
 clear H
 have H := H1
 clear H1
 replace H := Option.bind_eq_some_iff.mp H
 obtain ⟨t510, A40, H⟩ := H
 try dsimp only at H
 have A4 := Az.mk A40
 clear A40
 by_cases c5 : t510 = true
 rotate_left
 ·replace c5 := Bool.eq_false_iff.mpr c5
  subst c5
  have H1 : (some false) = some r := by rw [if_neg (show ¬ (false = true) by decide)] at H; exact H
  clear H
  have H := H1
  clear H1
  obtain rfl := Option.some.inj H
  go_enter Try.func88, Try.ntmps88
  go_wp2_with (first | ((with_reducible refine gtD (N := 1) rfl ?_); refine bxE ?hg (N := 1) ?hd (cs := #[.int .i64 a0_0, .int .i64 a0_1]) (t := 24) ?hr ?_; (case hd => rfl); (case hg => rfl); (case hr => first | (go_simp; done) | (go_simp; rfl)); intro gb508 hg w20 hbox hb; have n0_ := Az.mk (bwT bw_31 hb); have n1_ := Az.mk (hbox); have n2_ := Az.mk ((by rw [hg]; exact (bwZ bw_31) : w.heap.size ≤ gb508)); have n3_ := n2_; clear HB; have HB := n0_; have BK508 := n1_; have GW508 := n2_; have GE508 := n3_; clear n0_ n1_ n2_ n3_; clear hb hbox hg; have hcz21_0 : w20.cell? ⟨gb508, 0, none⟩ = some (.int .i64 a0_0) := (bkC BK508.out 0).trans rfl; have hcz21_1 : w20.cell? ⟨gb508, 1, none⟩ = some (.int .i64 a0_1) := (bkC BK508.out 1).trans rfl; have hfz21_0 := bkF BK508.out 0; have hfz21_1 := bkF BK508.out 1) | ((with_reducible refine gtC (f := 52) rfl ?_); refine goesL_ (some 5) rfl rfl Try.func52 (by kernel_rfl) rfl #[.int .i64 a0_0, .int .i64 (-1000), .int .i64 1000] rfl ln_31 ?_; (with_reducible refine (impl_within.calls a0_0 (-1000) 1000 true _ A2.out).mono ?_); rintro e w' ⟨rfl, ⟨nd, rfl⟩⟩; refine ⟨_, rfl, ?_⟩) | (go_at_call 52; (with_reducible refine (impl_within.calls a0_1 0 1000 false _ A4.out).mono ?_); rintro e w' ⟨rfl, ⟨nd, rfl⟩⟩))
  go_ret
  exact ⟨by first | rfl | (simp [eWn, eWs] <;> rfl) | (simp [*, eWn, eWs] <;> rfl), bw_31⟩
 subst c5
 have H1 : ((impl_gcd.f k a0_0 a0_1).bind fun t511 => (if t511 = 1 then (if a0_1 > 0 then (some true) else (some (a0_0 == 1))) else (some false))) = some r := by rw [if_pos rfl] at H; exact H
 clear H
 have H := H1
 clear H1
 replace H := Option.bind_eq_some_iff.mp H
 obtain ⟨t511, A60, H⟩ := H
 try dsimp only at H
 have A6 := Az.mk A60
 clear A60
 by_cases c7 : t511 = 1
 rotate_left
 ·rw [if_neg c7] at H
  have c7b0 : (t511 == 1) = false := beq_eq_false_iff_ne.mpr c7
  have c7b1 : (t511 != 1) = true := bne_iff_ne.mpr c7
  obtain rfl := Option.some.inj H
  go_enter Try.func88, Try.ntmps88
  go_wp2_with (first | ((with_reducible refine gtD (N := 1) rfl ?_); refine bxE ?hg (N := 1) ?hd (cs := #[.int .i64 a0_0, .int .i64 a0_1]) (t := 24) ?hr ?_; (case hd => rfl); (case hg => rfl); (case hr => first | (go_simp; done) | (go_simp; rfl)); intro gb508 hg w17 hbox hb; have n0_ := Az.mk (bwT bw_31 hb); have n1_ := Az.mk (hbox); have n2_ := Az.mk ((by rw [hg]; exact (bwZ bw_31) : w.heap.size ≤ gb508)); have n3_ := n2_; clear HB; have HB := n0_; have BK508 := n1_; have GW508 := n2_; have GE508 := n3_; clear n0_ n1_ n2_ n3_; clear hb hbox hg; have hcz18_0 : w17.cell? ⟨gb508, 0, none⟩ = some (.int .i64 a0_0) := (bkC BK508.out 0).trans rfl; have hcz18_1 : w17.cell? ⟨gb508, 1, none⟩ = some (.int .i64 a0_1) := (bkC BK508.out 1).trans rfl; have hfz18_0 := bkF BK508.out 0; have hfz18_1 := bkF BK508.out 1) | ((with_reducible refine gtC (f := 52) rfl ?_); refine goesL_ (some 5) rfl rfl Try.func52 (by kernel_rfl) rfl #[.int .i64 a0_0, .int .i64 (-1000), .int .i64 1000] rfl ln_31 ?_; (with_reducible refine (impl_within.calls a0_0 (-1000) 1000 true _ A2.out).mono ?_); rintro e w' ⟨rfl, ⟨nd, rfl⟩⟩; refine ⟨_, rfl, ?_⟩) | (go_at_call 52; (with_reducible refine (impl_within.calls a0_1 0 1000 true _ A4.out).mono ?_); rintro e w' ⟨rfl, ⟨nd, rfl⟩⟩) | (go_at_call 41; (with_reducible refine (impl_gcd.calls k a0_0 a0_1 t511 _ A6.out).mono ?_); rintro e w19 ⟨rfl, hb⟩; have n0_ := Az.mk (bkB (g := gb508) (o := .cells #[.int .i64 a0_0, .int .i64 a0_1] 24 (0, 0)) (by (with_reducible repeat (first | refine bkN ?_ _ | refine bkD ?_ | refine bkA ?_ _)); exact BK508.out) hb); have n1_ := Az.mk (bwT bw_31 hb); clear BK508; clear HB; have BK508 := n0_; have HB := n1_; clear n0_ n1_; (try clear hb); (try clear hb2); (try clear hk); (try clear hi)))
  go_ret
  exact ⟨by first | rfl | (simp [eWn, eWs] <;> rfl) | (simp [*, eWn, eWs] <;> rfl), bw_31⟩
 rw [if_pos c7] at H
 have c7b0 : (t511 == 1) = true := beq_iff_eq.mpr c7
 have c7b1 : (t511 != 1) = false := bne_eq_false_iff_eq.mpr c7
 clear c7
 by_cases c8 : a0_1 > 0
 ·rw [if_pos c8] at H
  have c8b0 : decide (0 < a0_1) = true := decide_eq_true c8
  clear c8
  obtain rfl := Option.some.inj H
  go_enter Try.func88, Try.ntmps88
  go_wp2_with (first | ((with_reducible refine gtD (N := 1) rfl ?_); refine bxE ?hg (N := 1) ?hd (cs := #[.int .i64 a0_0, .int .i64 a0_1]) (t := 24) ?hr ?_; (case hd => rfl); (case hg => rfl); (case hr => first | (go_simp; done) | (go_simp; rfl)); intro gb508 hg w9 hbox hb; have n0_ := Az.mk (bwT bw_31 hb); have n1_ := Az.mk (hbox); have n2_ := Az.mk ((by rw [hg]; exact (bwZ bw_31) : w.heap.size ≤ gb508)); have n3_ := n2_; clear HB; have HB := n0_; have BK508 := n1_; have GW508 := n2_; have GE508 := n3_; clear n0_ n1_ n2_ n3_; clear hb hbox hg; have hcz10_0 : w9.cell? ⟨gb508, 0, none⟩ = some (.int .i64 a0_0) := (bkC BK508.out 0).trans rfl; have hcz10_1 : w9.cell? ⟨gb508, 1, none⟩ = some (.int .i64 a0_1) := (bkC BK508.out 1).trans rfl; have hfz10_0 := bkF BK508.out 0; have hfz10_1 := bkF BK508.out 1) | ((with_reducible refine gtC (f := 52) rfl ?_); refine goesL_ (some 5) rfl rfl Try.func52 (by kernel_rfl) rfl #[.int .i64 a0_0, .int .i64 (-1000), .int .i64 1000] rfl ln_31 ?_; (with_reducible refine (impl_within.calls a0_0 (-1000) 1000 true _ A2.out).mono ?_); rintro e w' ⟨rfl, ⟨nd, rfl⟩⟩; refine ⟨_, rfl, ?_⟩) | (go_at_call 52; (with_reducible refine (impl_within.calls a0_1 0 1000 true _ A4.out).mono ?_); rintro e w' ⟨rfl, ⟨nd, rfl⟩⟩) | (go_at_call 41; (with_reducible refine (impl_gcd.calls k a0_0 a0_1 t511 _ A6.out).mono ?_); rintro e w11 ⟨rfl, hb⟩; have n0_ := Az.mk (bkB (g := gb508) (o := .cells #[.int .i64 a0_0, .int .i64 a0_1] 24 (0, 0)) (by (with_reducible repeat (first | refine bkN ?_ _ | refine bkD ?_ | refine bkA ?_ _)); exact BK508.out) hb); have n1_ := Az.mk (bwT bw_31 hb); clear BK508; clear HB; have BK508 := n0_; have HB := n1_; clear n0_ n1_; (try clear hb); (try clear hb2); (try clear hk); (try clear hi); have hcz12_0 : w11.cell? ⟨gb508, 0, none⟩ = some (.int .i64 a0_0) := (bkC BK508.out 0).trans rfl; have hcz12_1 : w11.cell? ⟨gb508, 1, none⟩ = some (.int .i64 a0_1) := (bkC BK508.out 1).trans rfl; have hfz12_0 := bkF BK508.out 0; have hfz12_1 := bkF BK508.out 1))
  go_ret
  exact ⟨by first | rfl | (simp [eWn, eWs] <;> rfl) | (simp [*, eWn, eWs] <;> rfl), bw_31⟩
 rw [if_neg c8] at H
 have c8b0 : decide (0 < a0_1) = false := decide_eq_false c8
 clear c8
 obtain rfl := Option.some.inj H
 go_enter Try.func88, Try.ntmps88
 go_wp2_with (first | ((with_reducible refine gtD (N := 1) rfl ?_); refine bxE ?hg (N := 1) ?hd (cs := #[.int .i64 a0_0, .int .i64 a0_1]) (t := 24) ?hr ?_; (case hd => rfl); (case hg => rfl); (case hr => first | (go_simp; done) | (go_simp; rfl)); intro gb508 hg w13 hbox hb; have n0_ := Az.mk (bwT bw_31 hb); have n1_ := Az.mk (hbox); have n2_ := Az.mk ((by rw [hg]; exact (bwZ bw_31) : w.heap.size ≤ gb508)); have n3_ := n2_; clear HB; have HB := n0_; have BK508 := n1_; have GW508 := n2_; have GE508 := n3_; clear n0_ n1_ n2_ n3_; clear hb hbox hg; have hcz14_0 : w13.cell? ⟨gb508, 0, none⟩ = some (.int .i64 a0_0) := (bkC BK508.out 0).trans rfl; have hcz14_1 : w13.cell? ⟨gb508, 1, none⟩ = some (.int .i64 a0_1) := (bkC BK508.out 1).trans rfl; have hfz14_0 := bkF BK508.out 0; have hfz14_1 := bkF BK508.out 1) | ((with_reducible refine gtC (f := 52) rfl ?_); refine goesL_ (some 5) rfl rfl Try.func52 (by kernel_rfl) rfl #[.int .i64 a0_0, .int .i64 (-1000), .int .i64 1000] rfl ln_31 ?_; (with_reducible refine (impl_within.calls a0_0 (-1000) 1000 true _ A2.out).mono ?_); rintro e w' ⟨rfl, ⟨nd, rfl⟩⟩; refine ⟨_, rfl, ?_⟩) | (go_at_call 52; (with_reducible refine (impl_within.calls a0_1 0 1000 true _ A4.out).mono ?_); rintro e w' ⟨rfl, ⟨nd, rfl⟩⟩) | (go_at_call 41; (with_reducible refine (impl_gcd.calls k a0_0 a0_1 t511 _ A6.out).mono ?_); rintro e w15 ⟨rfl, hb⟩; have n0_ := Az.mk (bkB (g := gb508) (o := .cells #[.int .i64 a0_0, .int .i64 a0_1] 24 (0, 0)) (by (with_reducible repeat (first | refine bkN ?_ _ | refine bkD ?_ | refine bkA ?_ _)); exact BK508.out) hb); have n1_ := Az.mk (bwT bw_31 hb); clear BK508; clear HB; have BK508 := n0_; have HB := n1_; clear n0_ n1_; (try clear hb); (try clear hb2); (try clear hk); (try clear hi); have hcz16_0 : w15.cell? ⟨gb508, 0, none⟩ = some (.int .i64 a0_0) := (bkC BK508.out 0).trans rfl; have hcz16_1 : w15.cell? ⟨gb508, 1, none⟩ = some (.int .i64 a0_1) := (bkC BK508.out 1).trans rfl; have hfz16_0 := bkF BK508.out 0; have hfz16_1 := bkF BK508.out 1))
 go_ret
 exact ⟨by first | rfl | (simp [eWn, eWs] <;> rfl) | (simp [*, eWn, eWs] <;> rfl), bw_31⟩

end Go.Proofs.Ytjmgbaphlhimhaa.P
