-- By this session's driver (wip/tools/mk.py) of the kit's print program, over several statements at once. Not trusted: Lean checks it.
import Derived.Test.YtjmgbaphlhimhaaUPx0
import Derived.Test.YtjmgbaphlhimhaaUPx8
import Derived.Test.YtjmgbaphlhimhaaUPx15
import Derived.Test.YtjmgbaphlhimhaaUPx16
import Derived.Test.YtjmgbaphlhimhaaUPx20
import Derived.Test.YtjmgbaphlhimhaaUPx34
import Derived.Test.YtjmgbaphlhimhaaUPx35
namespace Go.Proofs.Ytjmgbaphlhimhaa.P
open Go.RowKit Go.Proofs.YtjmgbaphlhimhaaW.PrintWords Go.Proofs.YtjmgbaphlhimhaaW.PrintLast Go.Proofs.YtjmgbaphlhimhaaW.PrintMore
attribute [local go_sem] max2_int min2_int max_two min_two max_three min_three max_four min_four   -- for this text's walks alone
set_option linter.unusedVariables false
set_option linter.unusedSimpArgs false
theorem bw_36 {n : Nat} {v v' : World} (h : Below n v v' := by repeat (first | (with_reducible first | exact HB.out | apply bwA | apply pbN | apply bwD | refine bwS ?_ GE542.out | refine bwS ?_ GE547.out | refine bwS ?_ GE559.out) | exact HB.out)) : Below n v v' := h
theorem ln_36 {P : Prop} (h : P := by (try simp only [List.map_toArray, List.map_cons, List.map_nil]); first | done | rfl | (simp only [List.length_drop, List.length_take]; rfl)) : P := h
open Option renaming bind_eq_some_iff → be

/-! ### impl_TwistCurve: function 18 -/
mutual
def impl_TwistCurve.j0 : Nat → List Int → Int → Int → Int → Bool → Int → Int → Int → Int → Option (List Int × Bool)
 | 0, _, _, _, _, _, _, _, _, _ => none
 | k + 1, x1, x2, x9, x12, x38, x543000, x543001, x548000, x548001 => if x38 = true then (some (([] : List Int), false)) else (if x9 = 0 then (impl_TwistCurve.j1 k x1 x2 x9 x12 true x543000 x543001 x548000 x548001) else (impl_TwistCurve.j1 k x1 x2 x9 x12 (x12 == 0) x543000 x543001 x548000 x548001))
def impl_TwistCurve.j1 : Nat → List Int → Int → Int → Int → Bool → Int → Int → Int → Int → Option (List Int × Bool)
 | 0, _, _, _, _, _, _, _, _, _ => none
 | k + 1, x1, x2, x9, x12, x44, x543000, x543001, x548000, x548001 => if x44 = true then ((impl_torus.f).bind fun t549 => ((impl_PlainCurve.f k t549 x1).bind fun bt552 => (some (bt552.1, bt552.2)))) else ((impl_TwistSlope.f k x543000 x543001 x548000 x548001 (wrap64 (x2 * x9))).bind fun bt556 => (if bt556.2.2 = true then ((impl_CurveOfSlope.f k bt556.1 bt556.2.1 x12).bind fun bt560 => (some (bt560.1, bt560.2))) else (some (([] : List Int), false))))
end
def impl_TwistCurve.f (k : Nat) (l0 : List Int) (l1 : List Int) (a2 : Int) : Option (List Int × Bool) := (impl_SlopeOfCurve.f k l0).bind fun bt538 => ((impl_SlopeOfCurve.f k l1).bind fun bt543 => ((impl_within.f a2 (-20) 20).bind fun t548 => (if t548 = true then (if bt538.2.2.2 = true then (impl_TwistCurve.j0 k l1 a2 bt538.2.2.1 bt543.2.2.1 (!bt543.2.2.2) bt538.1 bt538.2.1 bt543.1 bt543.2.1) else (impl_TwistCurve.j0 k l1 a2 bt538.2.2.1 bt543.2.2.1 true bt538.1 bt538.2.1 bt543.1 bt543.2.1)) else (impl_TwistCurve.j0 k l1 a2 bt538.2.2.1 bt543.2.2.1 true bt538.1 bt538.2.1 bt543.1 bt543.2.1))))
theorem impl_TwistCurve.mono_l : ∀ k, (∀ y0 y1 y2 y3 y4 y5 y6 y7 y8, LeO (impl_TwistCurve.j0 k y0 y1 y2 y3 y4 y5 y6 y7 y8) (impl_TwistCurve.j0 (k + 1) y0 y1 y2 y3 y4 y5 y6 y7 y8)) ∧ (∀ y0 y1 y2 y3 y4 y5 y6 y7 y8, LeO (impl_TwistCurve.j1 k y0 y1 y2 y3 y4 y5 y6 y7 y8) (impl_TwistCurve.j1 (k + 1) y0 y1 y2 y3 y4 y5 y6 y7 y8))
 | 0 => ⟨fun _ _ _ _ _ _ _ _ _ r h => by simp [impl_TwistCurve.j0] at h, fun _ _ _ _ _ _ _ _ _ r h => by simp [impl_TwistCurve.j1] at h⟩
 | k + 1 => by
  obtain ⟨ih0, ih1⟩ := impl_TwistCurve.mono_l k
  refine ⟨?_, ?_⟩
  ·intro y0 y1 y2 y3 y4 y5 y6 y7 y8
   unfold impl_TwistCurve.j0
   repeat' first
   | (with_reducible exact ih0 _ _ _ _ _ _ _ _ _)
   | (with_reducible exact ih1 _ _ _ _ _ _ _ _ _)
   | (with_reducible exact impl_CurveOfSlope.mono _ _ _ _)
   | (with_reducible exact impl_PlainCurve.mono _ _ _)
   | (with_reducible exact impl_SlopeOfCurve.mono _ _)
   | (with_reducible exact impl_TwistSlope.mono _ _ _ _ _ _)
   | (with_reducible exact LeO.refl _)
   | (with_reducible exact LeO.none _)
   | (with_reducible refine LeO.ite ?_ ?_)
   | (with_reducible refine LeO.bind ?_ (fun _ => ?_))
   | exact ih0 _ _ _ _ _ _ _ _ _
   | exact ih1 _ _ _ _ _ _ _ _ _
   | exact impl_CurveOfSlope.mono _ _ _ _
   | exact impl_PlainCurve.mono _ _ _
   | exact impl_SlopeOfCurve.mono _ _
   | exact impl_TwistSlope.mono _ _ _ _ _ _
   | exact LeO.none _
   | refine LeO.ite ?_ ?_
   | refine LeO.bind ?_ (fun _ => ?_)
  intro y0 y1 y2 y3 y4 y5 y6 y7 y8
  unfold impl_TwistCurve.j1
  repeat' first
  | (with_reducible exact ih0 _ _ _ _ _ _ _ _ _)
  | (with_reducible exact ih1 _ _ _ _ _ _ _ _ _)
  | (with_reducible exact impl_CurveOfSlope.mono _ _ _ _)
  | (with_reducible exact impl_PlainCurve.mono _ _ _)
  | (with_reducible exact impl_SlopeOfCurve.mono _ _)
  | (with_reducible exact impl_TwistSlope.mono _ _ _ _ _ _)
  | (with_reducible exact LeO.refl _)
  | (with_reducible exact LeO.none _)
  | (with_reducible refine LeO.ite ?_ ?_)
  | (with_reducible refine LeO.bind ?_ (fun _ => ?_))
  | exact ih0 _ _ _ _ _ _ _ _ _
  | exact ih1 _ _ _ _ _ _ _ _ _
  | exact impl_CurveOfSlope.mono _ _ _ _
  | exact impl_PlainCurve.mono _ _ _
  | exact impl_SlopeOfCurve.mono _ _
  | exact impl_TwistSlope.mono _ _ _ _ _ _
  | exact LeO.none _
  | refine LeO.ite ?_ ?_
  | refine LeO.bind ?_ (fun _ => ?_)
theorem impl_TwistCurve.mono : ∀ a0 a1 a2 k, LeO (impl_TwistCurve.f k a0 a1 a2) (impl_TwistCurve.f (k + 1) a0 a1 a2) := by
 intro a0 a1 a2 k
 obtain ⟨ih0, ih1⟩ := impl_TwistCurve.mono_l k
 unfold impl_TwistCurve.f
 repeat' first
   | (with_reducible exact ih0 _ _ _ _ _ _ _ _ _)
   | (with_reducible exact ih1 _ _ _ _ _ _ _ _ _)
   | (with_reducible exact impl_CurveOfSlope.mono _ _ _ _)
   | (with_reducible exact impl_PlainCurve.mono _ _ _)
   | (with_reducible exact impl_SlopeOfCurve.mono _ _)
   | (with_reducible exact impl_TwistSlope.mono _ _ _ _ _ _)
   | (with_reducible exact LeO.refl _)
   | (with_reducible exact LeO.none _)
   | (with_reducible refine LeO.ite ?_ ?_)
   | (with_reducible refine LeO.bind ?_ (fun _ => ?_))
   | exact ih0 _ _ _ _ _ _ _ _ _
   | exact ih1 _ _ _ _ _ _ _ _ _
   | exact impl_CurveOfSlope.mono _ _ _ _
   | exact impl_PlainCurve.mono _ _ _
   | exact impl_SlopeOfCurve.mono _ _
   | exact impl_TwistSlope.mono _ _ _ _ _ _
   | exact LeO.none _
   | refine LeO.ite ?_ ?_
   | refine LeO.bind ?_ (fun _ => ?_)
set_option maxHeartbeats 8000000 in
set_option maxRecDepth 100000 in
theorem impl_TwistCurve.calls (k : Nat) (A0 : Option Addr) (c0 : Nat) (l0 : List Int) (A1 : Option Addr) (c1 : Nat) (l1 : List Int) (a2 : Int) (r1 : List Int) (r2 : Bool) (w : World) (hr0 : Kd.C (Kd.int .i64) w A0 l0.length l0) (hc0 : l0.length ≤ c0) (hr1 : Kd.C (Kd.int .i64) w A1 l1.length l1) (hc1 : l1.length ≤ c1) (h : impl_TwistCurve.f k l0 l1 a2 = some (r1, r2)) :
  Calls Try.prog 18 #[.slice A0 l0.length c0, .slice A1 l1.length c1, .int .i64 a2] w fun e w' => ∃ v0_ : Value, e = .returned (.tuple #[v0_, .bool r2]) ∧ Kd.R (Kd.int .i64) 3 w' w.heap.size (fun _ => True) v0_ r1 ∧ Below w.heap.size w w' := by
 have hu24 := Try.underlying24
 have HR0 := Az.mk hr0
 have HC0 := Az.mk hc0
 clear hr0 hc0
 have HR1 := Az.mk hr1
 have HC1 := Az.mk hc1
 clear hr1 hc1
 have HB := Az.mk (Below.refl w.heap.size w)
 have H : ((impl_SlopeOfCurve.f k l0).bind fun bt538 => ((impl_SlopeOfCurve.f k l1).bind fun bt543 => ((impl_within.f a2 (-20) 20).bind fun t548 => (if t548 = true then (if bt538.2.2.2 = true then (impl_TwistCurve.j0 k l1 a2 bt538.2.2.1 bt543.2.2.1 (!bt543.2.2.2) bt538.1 bt538.2.1 bt543.1 bt543.2.1) else (impl_TwistCurve.j0 k l1 a2 bt538.2.2.1 bt543.2.2.1 true bt538.1 bt538.2.1 bt543.1 bt543.2.1)) else (impl_TwistCurve.j0 k l1 a2 bt538.2.2.1 bt543.2.2.1 true bt538.1 bt538.2.1 bt543.1 bt543.2.1))))) = some (r1, r2) := h
 clear h
 replace H := be.mp H
 obtain ⟨⟨t538, t539, t540, t541⟩, A40, H⟩ := H
 try dsimp only at H
 have A4 := Az.mk A40
 clear A40
 replace H := be.mp H
 obtain ⟨⟨t543, t544, t545, t546⟩, A50, H⟩ := H
 try dsimp only at H
 have A5 := Az.mk A50
 clear A50
 have HC6 := Az.mk H
 clear H
 go_enter Try.func18, Try.ntmps18
 go_upto_region 3 with (first | ((with_reducible refine gtC (f := 10) rfl ?_); refine goesL_ (some 18) rfl rfl Try.func10 (by kernel_rfl) rfl #[.slice A0 l0.length c0] rfl ln_36 ?_; (with_reducible refine (impl_SlopeOfCurve.calls k _ _ l0 t538 t539 t540 t541 _ ?side1 ?side2 A4.out).mono ?_); (case side1 => repeat (first | exact HR0.out | (with_reducible refine Kd.C_alloc ?_ _) | (with_reducible refine Kd.C_drewN ?_ _) | (with_reducible refine Kd.C_drew ?_))); (case side2 => exact HC0.out); rintro e w7 ⟨rfl, hb⟩; refine ⟨_, rfl, ?_⟩; replace HB := Az.mk (bwT bw_36 hb); (try clear hb)) | ((with_reducible refine gtD (N := 8) rfl ?_); refine bxE ?hg (N := 8) ?hd (cs := #[.int .i64 0, .int .i64 0]) (t := 24) ?hr ?_; (case hd => rfl); (case hg => rfl); (case hr => first | (go_simp; done) | (go_simp; rfl)); intro gb542 hg w8 hbox hb; have BK542 := Az.mk (hbox); have GW542 := Az.mk ((by rw [hg]; exact (bwZ bw_36) : w.heap.size ≤ gb542)); have GE542 := Az.mk ((by rw [hg]; exact (bwZ bw_36) : w.heap.size ≤ gb542)); replace HB := Az.mk (bwT bw_36 hb); clear hb hbox hg; have hcz9_0 : w8.cell? ⟨gb542, 0, none⟩ = some (.int .i64 0) := (bkC BK542.out 0).trans rfl; have hcz9_1 : w8.cell? ⟨gb542, 1, none⟩ = some (.int .i64 0) := (bkC BK542.out 1).trans rfl; have hfz9_0 := bkF BK542.out 0; have hfz9_1 := bkF BK542.out 1) | ((with_reducible refine gtC (f := 10) rfl ?_); refine goesL_ (some 24) rfl rfl Try.func10 (by kernel_rfl) rfl #[.slice A1 l1.length c1] rfl ln_36 ?_; (with_reducible refine (impl_SlopeOfCurve.calls k _ _ l1 t543 t544 t545 t546 _ ?side1 ?side2 A5.out).mono ?_); (case side1 => exact Kd.C_below HR1.out bw_36); (case side2 => exact HC1.out); rintro e w10 ⟨rfl, hb⟩; refine ⟨_, rfl, ?_⟩; replace BK542 := Az.mk (bkB (g := gb542) (o := .cells #[.int .i64 t538, .int .i64 t539] 24 (0, 0)) (by (with_reducible repeat first | apply bkN | apply bkD | apply bkA); refine bkp (cs := #[.int .i64 t538, .int .i64 0]) ?_ 1 _ rfl; (with_reducible repeat first | apply bkN | apply bkD | apply bkA); refine bkp (cs := #[.int .i64 0, .int .i64 0]) ?_ 0 _ rfl; (with_reducible repeat first | apply bkN | apply bkD | apply bkA); exact BK542.out) hb); replace HB := Az.mk (bwT bw_36 hb); (try clear hb)) | ((with_reducible refine gtD (N := 11) rfl ?_); refine bxE ?hg (N := 11) ?hd (cs := #[.int .i64 0, .int .i64 0]) (t := 24) ?hr ?_; (case hd => rfl); (case hg => rfl); (case hr => first | (go_simp; done) | (go_simp; rfl)); intro gb547 hg w11 hbox hb; have BK547 := Az.mk (hbox); have GW547 := Az.mk ((by rw [hg]; exact (bwZ bw_36) : w.heap.size ≤ gb547)); have GE547 := Az.mk ((by rw [hg]; exact (bwZ bw_36) : w.heap.size ≤ gb547)); replace HB := Az.mk (bwT bw_36 hb); have NB542_547 := Az.mk ((by rw [hg]; exact Nat.ne_of_lt (blk_lt (g := gb542) (o := .cells #[.int .i64 t538, .int .i64 t539] 24 (0, 0)) (by (with_reducible repeat first | apply bkN | apply bkD | apply bkA); exact BK542.out)) : gb542 ≠ gb547)); have NB547_542 := Az.mk ((by rw [hg]; exact Nat.ne_of_gt (blk_lt (g := gb542) (o := .cells #[.int .i64 t538, .int .i64 t539] 24 (0, 0)) (by (with_reducible repeat first | apply bkN | apply bkD | apply bkA); exact BK542.out)) : gb547 ≠ gb542)); replace BK542 := Az.mk (bkB (g := gb542) (o := .cells #[.int .i64 t538, .int .i64 t539] 24 (0, 0)) (by (with_reducible repeat first | apply bkN | apply bkD | apply bkA); exact BK542.out) hb); clear hb hbox hg; have hnb12 := NB547_542.out; have hnc12 := NB542_547.out; have hcz13_0 : w11.cell? ⟨gb547, 0, none⟩ = some (.int .i64 0) := (bkC BK547.out 0).trans rfl; have hcz13_1 : w11.cell? ⟨gb547, 1, none⟩ = some (.int .i64 0) := (bkC BK547.out 1).trans rfl; have hfz13_0 := bkF BK547.out 0; have hfz13_1 := bkF BK547.out 1))
 (try simp only [Act.put, List.setIfInBounds_toArray, List.set_cons_zero, List.set_cons_succ])
 go_cut [38] (fun v38 wc => ∃ (kq : Nat) (x38_5 : Bool), v38 = .bool x38_5 ∧ Az (impl_TwistCurve.j0 kq l1 a2 t540 t545 x38_5 t538 t539 t543 t544 = some (r1, r2)) ∧ Az (kq ≤ k) ∧ Az (wc.heap[gb542]? = some (.cells #[.int .i64 t538, .int .i64 t539] 24 (0, 0))) ∧ Az (wc.heap[gb547]? = some (.cells #[.int .i64 t543, .int .i64 t544] 24 (0, 0))) ∧ Az (Below w.heap.size w wc))
 case first =>
  have H := HC6.out
  clear HC6
  replace H := be.mp H
  obtain ⟨t548, A140, H⟩ := H
  try dsimp only at H
  have A14 := Az.mk A140
  clear A140
  by_cases c15 : t548 = true
  rotate_left
  ·replace c15 := Bool.eq_false_iff.mpr c15
   subst c15
   rw [if_neg (show ¬ (false = true) by decide)] at H
   have H' := Az.mk H
   clear H
   go_wp2_with (first | ((with_reducible refine gtC (f := 52) rfl ?_); refine goesL_ (some 29) rfl rfl Try.func52 (by kernel_rfl) rfl #[.int .i64 a2, .int .i64 (-20), .int .i64 20] rfl ln_36 ?_; (with_reducible refine (impl_within.calls a2 (-20) 20 false _ A14.out).mono ?_); rintro e w' ⟨rfl, ⟨nd, rfl⟩⟩; refine ⟨_, rfl, ?_⟩))
   go_meet
   case rel => exact ⟨_, (true), (by first | rfl | (simp; done) | (simp [*]; done)), H', ⟨by first | omega | exact Nat.le_refl _⟩, ⟨by (with_reducible repeat first | apply bkN | apply bkD | apply bkA); refine bkf ?_ NB542_547.out _; (with_reducible repeat first | apply bkN | apply bkD | apply bkA); refine bkf ?_ NB542_547.out _; (with_reducible repeat first | apply bkN | apply bkD | apply bkA); exact BK542.out⟩, ⟨by (with_reducible repeat first | apply bkN | apply bkD | apply bkA); refine bkp (cs := #[.int .i64 t543, .int .i64 0]) ?_ 1 _ rfl; (with_reducible repeat first | apply bkN | apply bkD | apply bkA); refine bkp (cs := #[.int .i64 0, .int .i64 0]) ?_ 0 _ rfl; (with_reducible repeat first | apply bkN | apply bkD | apply bkA); exact BK547.out⟩, ⟨bw_36⟩⟩
  subst c15
  rw [if_pos rfl] at H
  by_cases c16 : t541 = true
  ·subst c16
   rw [if_pos rfl] at H
   have H' := Az.mk H
   clear H
   go_wp2_with (first | ((with_reducible refine gtC (f := 52) rfl ?_); refine goesL_ (some 29) rfl rfl Try.func52 (by kernel_rfl) rfl #[.int .i64 a2, .int .i64 (-20), .int .i64 20] rfl ln_36 ?_; (with_reducible refine (impl_within.calls a2 (-20) 20 true _ A14.out).mono ?_); rintro e w' ⟨rfl, ⟨nd, rfl⟩⟩; refine ⟨_, rfl, ?_⟩))
   go_meet
   case rel => exact ⟨_, (!t546), (by first | rfl | (simp; done) | (simp [*]; done)), H', ⟨by first | omega | exact Nat.le_refl _⟩, ⟨by (with_reducible repeat first | apply bkN | apply bkD | apply bkA); refine bkf ?_ NB542_547.out _; (with_reducible repeat first | apply bkN | apply bkD | apply bkA); refine bkf ?_ NB542_547.out _; (with_reducible repeat first | apply bkN | apply bkD | apply bkA); exact BK542.out⟩, ⟨by (with_reducible repeat first | apply bkN | apply bkD | apply bkA); refine bkp (cs := #[.int .i64 t543, .int .i64 0]) ?_ 1 _ rfl; (with_reducible repeat first | apply bkN | apply bkD | apply bkA); refine bkp (cs := #[.int .i64 0, .int .i64 0]) ?_ 0 _ rfl; (with_reducible repeat first | apply bkN | apply bkD | apply bkA); exact BK547.out⟩, ⟨bw_36⟩⟩
  replace c16 := Bool.eq_false_iff.mpr c16
  subst c16
  rw [if_neg (show ¬ (false = true) by decide)] at H
  have H' := Az.mk H
  clear H
  go_wp2_with (first | ((with_reducible refine gtC (f := 52) rfl ?_); refine goesL_ (some 29) rfl rfl Try.func52 (by kernel_rfl) rfl #[.int .i64 a2, .int .i64 (-20), .int .i64 20] rfl ln_36 ?_; (with_reducible refine (impl_within.calls a2 (-20) 20 true _ A14.out).mono ?_); rintro e w' ⟨rfl, ⟨nd, rfl⟩⟩; refine ⟨_, rfl, ?_⟩))
  go_meet
  case rel => exact ⟨_, (true), (by first | rfl | (simp; done) | (simp [*]; done)), H', ⟨by first | omega | exact Nat.le_refl _⟩, ⟨by (with_reducible repeat first | apply bkN | apply bkD | apply bkA); refine bkf ?_ NB542_547.out _; (with_reducible repeat first | apply bkN | apply bkD | apply bkA); refine bkf ?_ NB542_547.out _; (with_reducible repeat first | apply bkN | apply bkD | apply bkA); exact BK542.out⟩, ⟨by (with_reducible repeat first | apply bkN | apply bkD | apply bkA); refine bkp (cs := #[.int .i64 t543, .int .i64 0]) ?_ 1 _ rfl; (with_reducible repeat first | apply bkN | apply bkD | apply bkA); refine bkp (cs := #[.int .i64 0, .int .i64 0]) ?_ 0 _ rfl; (with_reducible repeat first | apply bkN | apply bkD | apply bkA); exact BK547.out⟩, ⟨bw_36⟩⟩
 case rest =>
  clear HC6
  try clear c1
  try clear p2
  try clear c5
  try clear c10
  try clear c12
  try clear c15
  try clear c16
  try clear hcz13_0
  try clear hcz13_1
  try clear hcz9_0
  try clear hcz9_1
  try clear hfz13_0
  try clear hfz13_1
  try clear hfz9_0
  try clear hfz9_1
  obtain ⟨kq, x38_5, rfl, HA, HJ5, BK542, BK547, HB⟩ := hcut
  cases kq with
  | zero => exact absurd HA.out (by simp [impl_TwistCurve.j0])
  | succ kj5 =>
   have H := HA.out
   clear HA
   simp only [impl_TwistCurve.j0] at H
   by_cases c17 : x38_5 = true
   ·subst c17
    rw [if_pos rfl] at H
    simp only [Option.some.injEq, Prod.mk.injEq] at H
    obtain ⟨rfl, rfl⟩ := H
    go_wp2
    go_ret2
    exact ⟨_, by first | rfl | (simp [eWn, eWs] <;> rfl) | (simp [*, eWn, eWs] <;> rfl), by first | exact Kd.R_nil _ _ _ _ _ | exact Kd.N_nil _ _ _ _ _ | exact Kd.V_nil _ _ _ _ _ | exact Kd.Q_nil _ _ _ _ _ | exact Kd.S_nil _ _ _ _ _, bw_36⟩
   replace c17 := Bool.eq_false_iff.mpr c17
   subst c17
   rw [if_neg (show ¬ (false = true) by decide)] at H
   have HC18 := Az.mk H
   clear H
   go_upto_region 5 with (fail)
   go_cut [44] (fun v44 wc => ∃ (kq : Nat) (x44_17 : Bool), v44 = .bool x44_17 ∧ Az (impl_TwistCurve.j1 kq l1 a2 t540 t545 x44_17 t538 t539 t543 t544 = some (r1, r2)) ∧ Az (kq ≤ kj5) ∧ Az (wc.heap[gb542]? = some (.cells #[.int .i64 t538, .int .i64 t539] 24 (0, 0))) ∧ Az (wc.heap[gb547]? = some (.cells #[.int .i64 t543, .int .i64 t544] 24 (0, 0))) ∧ Az (Below w.heap.size w wc))
   case first =>
    have H := HC18.out
    clear HC18
    by_cases c19 : t540 = 0
    rotate_left
    ·rw [if_neg c19] at H
     have c19b0 : (t540 == 0) = false := beq_eq_false_iff_ne.mpr c19
     have c19b1 : (t540 != 0) = true := bne_iff_ne.mpr c19
     (first | rw [c19b0] | (simp only [i64_w, i32_w]; rw [c19b0]) | skip)
     have H' := Az.mk H
     clear H
     go_wp2
     go_meet
     case rel => exact ⟨_, ((t545 == 0)), (by first | rfl | (simp; done) | (simp [*]; done)), H', ⟨by have := HJ5.out; first | omega | exact Nat.le_refl _⟩, ⟨by (with_reducible repeat first | apply bkN | apply bkD | apply bkA); exact BK542.out⟩, ⟨by (with_reducible repeat first | apply bkN | apply bkD | apply bkA); exact BK547.out⟩, ⟨bw_36⟩⟩
    rw [if_pos c19] at H
    have c19b0 : (t540 == 0) = true := beq_iff_eq.mpr c19
    have c19b1 : (t540 != 0) = false := bne_eq_false_iff_eq.mpr c19
    clear c19
    (first | rw [c19b0] | (simp only [i64_w, i32_w]; rw [c19b0]) | skip)
    have H' := Az.mk H
    clear H
    go_wp2
    go_meet
    case rel => exact ⟨_, (true), (by first | rfl | (simp; done) | (simp [*]; done)), H', ⟨by have := HJ5.out; first | omega | exact Nat.le_refl _⟩, ⟨by (with_reducible repeat first | apply bkN | apply bkD | apply bkA); exact BK542.out⟩, ⟨by (with_reducible repeat first | apply bkN | apply bkD | apply bkA); exact BK547.out⟩, ⟨bw_36⟩⟩
   case rest =>
    clear HC18
    try clear c1
    try clear p2
    try clear c5
    try clear c10
    try clear c12
    try clear c15
    try clear c16
    try clear c17
    try clear c18
    try clear c19
    try clear c19b0
    try clear c19b1
    try clear hcz13_0
    try clear hcz13_1
    try clear hcz9_0
    try clear hcz9_1
    try clear hfz13_0
    try clear hfz13_1
    try clear hfz9_0
    try clear hfz9_1
    try clear p2
    obtain ⟨kq, x44_17, rfl, HA, HJ17, BK542, BK547, HB⟩ := hcut
    cases kq with
    | zero => exact absurd HA.out (by simp [impl_TwistCurve.j1])
    | succ kj17 =>
     have H := HA.out
     clear HA
     simp only [impl_TwistCurve.j1] at H
     by_cases c20 : x44_17 = true
     ·subst c20
      rw [if_pos rfl] at H
      replace H := be.mp H
      obtain ⟨t549, A210, H⟩ := H
      try dsimp only at H
      have A21 := Az.mk A210
      clear A210
      replace H := be.mp H
      obtain ⟨⟨t552, t553⟩, A220, H⟩ := H
      try dsimp only at H
      have A22 := Az.mk A220
      clear A220
      simp only [Option.some.injEq, Prod.mk.injEq] at H
      obtain ⟨rfl, rfl⟩ := H
      go_wp2_with (first | ((with_reducible refine gtC (f := 40) rfl ?_); refine goesL_ (some 45) rfl rfl Try.func40 (by kernel_rfl) rfl #[] rfl ln_36 ?_; (with_reducible refine (impl_torus.calls  t549 _ A21.out).mono ?_); rintro e w23 ⟨v550, rfl, ho0, hb⟩; refine ⟨_, rfl, ?_⟩; have HO551 := Az.mk (Kd.N_lower (Kd.N_mono (ok' := fun k_ => k_ ≠ gb542 ∧ k_ ≠ gb547) ho0 (fun k_ hk_ => ⟨(Kd.freshB (g := gb542) (o := .cells #[.int .i64 t538, .int .i64 t539] 24 (0, 0)) (by (with_reducible repeat first | apply bkN | apply bkD | apply bkA); exact BK542.out) k_ hk_), (Kd.freshB (g := gb547) (o := .cells #[.int .i64 t543, .int .i64 t544] 24 (0, 0)) (by (with_reducible repeat first | apply bkN | apply bkD | apply bkA); exact BK547.out) k_ hk_)⟩)) (bwZ bw_36)); replace BK542 := Az.mk (bkB (g := gb542) (o := .cells #[.int .i64 t538, .int .i64 t539] 24 (0, 0)) (by (with_reducible repeat first | apply bkN | apply bkD | apply bkA); exact BK542.out) hb); replace BK547 := Az.mk (bkB (g := gb547) (o := .cells #[.int .i64 t543, .int .i64 t544] 24 (0, 0)) (by (with_reducible repeat first | apply bkN | apply bkD | apply bkA); exact BK547.out) hb); replace HB := Az.mk (bwT bw_36 hb); (try clear hb); (try clear ho0); obtain ⟨Ao24, co24, eo24⟩ := Kd.N_slice HO551.out; subst eo24) | ((with_reducible refine gtC (f := 27) rfl ?_); refine goesL_ (some 47) rfl rfl Try.func27 (by kernel_rfl) rfl #[.slice Ao24 t549.length co24, .slice A1 l1.length c1] rfl ln_36 ?_; (with_reducible refine (impl_PlainCurve.calls kj17 _ _ t549 _ _ l1 t552 t553 _ ?side1 ?side2 ?side3 ?side4 A22.out).mono ?_); (case side1 => repeat (first | exact (Kd.N_reads' HO551.out).2.2 | (with_reducible refine Kd.C_alloc ?_ _) | (with_reducible refine Kd.C_drewN ?_ _) | (with_reducible refine Kd.C_drew ?_))); (case side2 => exact (Kd.N_reads' HO551.out).2.1); (case side3 => repeat (first | exact (Kd.C_below HR1.out HB.out) | (with_reducible refine Kd.C_alloc ?_ _) | (with_reducible refine Kd.C_drewN ?_ _) | (with_reducible refine Kd.C_drew ?_))); (case side4 => exact HC1.out); rintro e w25 ⟨v554, rfl, ho0, hb⟩; refine ⟨_, rfl, ?_⟩; replace HO551 := Az.mk (Kd.N_elder' (by (with_reducible repeat (first | apply Kd.N_alloc | apply Kd.N_drewN | apply Kd.N_drew)); exact HO551.out) (Kd.R_base ho0) hb); have HO555 := Az.mk (Kd.R_lower ho0 (bwZ bw_36)); replace BK542 := Az.mk (bkB (g := gb542) (o := .cells #[.int .i64 t538, .int .i64 t539] 24 (0, 0)) (by (with_reducible repeat first | apply bkN | apply bkD | apply bkA); exact BK542.out) hb); replace BK547 := Az.mk (bkB (g := gb547) (o := .cells #[.int .i64 t543, .int .i64 t544] 24 (0, 0)) (by (with_reducible repeat first | apply bkN | apply bkD | apply bkA); exact BK547.out) hb); replace HB := Az.mk (bwT bw_36 hb); (try clear hb); (try clear ho0)))
      go_ret2
      exact ⟨_, by first | rfl | (simp [eWn, eWs] <;> rfl) | (simp [*, eWn, eWs] <;> rfl), by (with_reducible repeat (first | apply Kd.R_alloc | apply Kd.R_drewN | apply Kd.R_drew)); exact HO555.out, bw_36⟩
     replace c20 := Bool.eq_false_iff.mpr c20
     subst c20
     rw [if_neg (show ¬ (false = true) by decide)] at H
     replace H := be.mp H
     obtain ⟨⟨t556, t557, t558⟩, A260, H⟩ := H
     try dsimp only at H
     have A26 := Az.mk A260
     clear A260
     by_cases c27 : t558 = true
     rotate_left
     ·replace c27 := Bool.eq_false_iff.mpr c27
      subst c27
      rw [if_neg (show ¬ (false = true) by decide)] at H
      simp only [Option.some.injEq, Prod.mk.injEq] at H
      obtain ⟨rfl, rfl⟩ := H
      have hnb38 := NB542_547.out
      have hnc38 := NB547_542.out
      have hcz39_0 : wc.cell? ⟨gb542, 0, none⟩ = some (.int .i64 t538) := (bkC BK542.out 0).trans rfl
      have hcz39_1 : wc.cell? ⟨gb542, 1, none⟩ = some (.int .i64 t539) := (bkC BK542.out 1).trans rfl
      have hfz39_0 := bkF BK542.out 0
      have hfz39_1 := bkF BK542.out 1
      have hcz40_0 : wc.cell? ⟨gb547, 0, none⟩ = some (.int .i64 t543) := (bkC BK547.out 0).trans rfl
      have hcz40_1 : wc.cell? ⟨gb547, 1, none⟩ = some (.int .i64 t544) := (bkC BK547.out 1).trans rfl
      have hfz40_0 := bkF BK547.out 0
      have hfz40_1 := bkF BK547.out 1
      go_wp2_with (first | ((with_reducible refine gtC (f := 53) rfl ?_); refine goesL_ (some 56) rfl rfl Try.func53 (by kernel_rfl) rfl #[.agg #[.int .i64 t538, .int .i64 t539], .agg #[.int .i64 t543, .int .i64 t544], .int .i64 (wrap64 (a2 * t540))] rfl ln_36 ?_; (with_reducible refine (impl_TwistSlope.calls kj17 t538 t539 t543 t544 (wrap64 (a2 * t540)) t556 t557 false _ A26.out).mono ?_); rintro e w41 ⟨rfl, hb⟩; refine ⟨_, rfl, ?_⟩; replace BK542 := Az.mk (bkB (g := gb542) (o := .cells #[.int .i64 t538, .int .i64 t539] 24 (0, 0)) (by (with_reducible repeat first | apply bkN | apply bkD | apply bkA); exact BK542.out) hb); replace BK547 := Az.mk (bkB (g := gb547) (o := .cells #[.int .i64 t543, .int .i64 t544] 24 (0, 0)) (by (with_reducible repeat first | apply bkN | apply bkD | apply bkA); exact BK547.out) hb); replace HB := Az.mk (bwT bw_36 hb); (try clear hb)) | ((with_reducible refine gtD (N := 14) rfl ?_); refine bxE ?hg (N := 14) ?hd (cs := #[.int .i64 0, .int .i64 0]) (t := 24) ?hr ?_; (case hd => rfl); (case hg => rfl); (case hr => first | (go_simp; done) | (go_simp; rfl)); intro gb559 hg w42 hbox hb; have BK559 := Az.mk (hbox); have GW559 := Az.mk ((by rw [hg]; exact (bwZ bw_36) : w.heap.size ≤ gb559)); have GE559 := Az.mk ((by rw [hg]; exact (bwZ bw_36) : w.heap.size ≤ gb559)); replace HB := Az.mk (bwT bw_36 hb); have NB542_559 := Az.mk ((by rw [hg]; exact Nat.ne_of_lt (blk_lt (g := gb542) (o := .cells #[.int .i64 t538, .int .i64 t539] 24 (0, 0)) (by (with_reducible repeat first | apply bkN | apply bkD | apply bkA); exact BK542.out)) : gb542 ≠ gb559)); have NB559_542 := Az.mk ((by rw [hg]; exact Nat.ne_of_gt (blk_lt (g := gb542) (o := .cells #[.int .i64 t538, .int .i64 t539] 24 (0, 0)) (by (with_reducible repeat first | apply bkN | apply bkD | apply bkA); exact BK542.out)) : gb559 ≠ gb542)); replace BK542 := Az.mk (bkB (g := gb542) (o := .cells #[.int .i64 t538, .int .i64 t539] 24 (0, 0)) (by (with_reducible repeat first | apply bkN | apply bkD | apply bkA); exact BK542.out) hb); have NB547_559 := Az.mk ((by rw [hg]; exact Nat.ne_of_lt (blk_lt (g := gb547) (o := .cells #[.int .i64 t543, .int .i64 t544] 24 (0, 0)) (by (with_reducible repeat first | apply bkN | apply bkD | apply bkA); exact BK547.out)) : gb547 ≠ gb559)); have NB559_547 := Az.mk ((by rw [hg]; exact Nat.ne_of_gt (blk_lt (g := gb547) (o := .cells #[.int .i64 t543, .int .i64 t544] 24 (0, 0)) (by (with_reducible repeat first | apply bkN | apply bkD | apply bkA); exact BK547.out)) : gb559 ≠ gb547)); replace BK547 := Az.mk (bkB (g := gb547) (o := .cells #[.int .i64 t543, .int .i64 t544] 24 (0, 0)) (by (with_reducible repeat first | apply bkN | apply bkD | apply bkA); exact BK547.out) hb); clear hb hbox hg; have hnb43 := NB559_542.out; have hnc43 := NB542_559.out; have hnb44 := NB559_547.out; have hnc44 := NB547_559.out; have hcz45_0 : w42.cell? ⟨gb559, 0, none⟩ = some (.int .i64 0) := (bkC BK559.out 0).trans rfl; have hcz45_1 : w42.cell? ⟨gb559, 1, none⟩ = some (.int .i64 0) := (bkC BK559.out 1).trans rfl; have hfz45_0 := bkF BK559.out 0; have hfz45_1 := bkF BK559.out 1))
      go_ret2
      exact ⟨_, by first | rfl | (simp [eWn, eWs] <;> rfl) | (simp [*, eWn, eWs] <;> rfl), by first | exact Kd.R_nil _ _ _ _ _ | exact Kd.N_nil _ _ _ _ _ | exact Kd.V_nil _ _ _ _ _ | exact Kd.Q_nil _ _ _ _ _ | exact Kd.S_nil _ _ _ _ _, bw_36⟩
     subst c27
     rw [if_pos rfl] at H
     replace H := be.mp H
     obtain ⟨⟨t560, t563⟩, A280, H⟩ := H
     try dsimp only at H
     have A28 := Az.mk A280
     clear A280
     simp only [Option.some.injEq, Prod.mk.injEq] at H
     obtain ⟨rfl, rfl⟩ := H
     have hnb29 := NB542_547.out
     have hnc29 := NB547_542.out
     have hcz30_0 : wc.cell? ⟨gb542, 0, none⟩ = some (.int .i64 t538) := (bkC BK542.out 0).trans rfl
     have hcz30_1 : wc.cell? ⟨gb542, 1, none⟩ = some (.int .i64 t539) := (bkC BK542.out 1).trans rfl
     have hfz30_0 := bkF BK542.out 0
     have hfz30_1 := bkF BK542.out 1
     have hcz31_0 : wc.cell? ⟨gb547, 0, none⟩ = some (.int .i64 t543) := (bkC BK547.out 0).trans rfl
     have hcz31_1 : wc.cell? ⟨gb547, 1, none⟩ = some (.int .i64 t544) := (bkC BK547.out 1).trans rfl
     have hfz31_0 := bkF BK547.out 0
     have hfz31_1 := bkF BK547.out 1
     go_wp2_with (first | ((with_reducible refine gtC (f := 53) rfl ?_); refine goesL_ (some 56) rfl rfl Try.func53 (by kernel_rfl) rfl #[.agg #[.int .i64 t538, .int .i64 t539], .agg #[.int .i64 t543, .int .i64 t544], .int .i64 (wrap64 (a2 * t540))] rfl ln_36 ?_; (with_reducible refine (impl_TwistSlope.calls kj17 t538 t539 t543 t544 (wrap64 (a2 * t540)) t556 t557 true _ A26.out).mono ?_); rintro e w32 ⟨rfl, hb⟩; refine ⟨_, rfl, ?_⟩; replace BK542 := Az.mk (bkB (g := gb542) (o := .cells #[.int .i64 t538, .int .i64 t539] 24 (0, 0)) (by (with_reducible repeat first | apply bkN | apply bkD | apply bkA); exact BK542.out) hb); replace BK547 := Az.mk (bkB (g := gb547) (o := .cells #[.int .i64 t543, .int .i64 t544] 24 (0, 0)) (by (with_reducible repeat first | apply bkN | apply bkD | apply bkA); exact BK547.out) hb); replace HB := Az.mk (bwT bw_36 hb); (try clear hb)) | ((with_reducible refine gtD (N := 14) rfl ?_); refine bxE ?hg (N := 14) ?hd (cs := #[.int .i64 0, .int .i64 0]) (t := 24) ?hr ?_; (case hd => rfl); (case hg => rfl); (case hr => first | (go_simp; done) | (go_simp; rfl)); intro gb559 hg w33 hbox hb; have BK559 := Az.mk (hbox); have GW559 := Az.mk ((by rw [hg]; exact (bwZ bw_36) : w.heap.size ≤ gb559)); have GE559 := Az.mk ((by rw [hg]; exact (bwZ bw_36) : w.heap.size ≤ gb559)); replace HB := Az.mk (bwT bw_36 hb); have NB542_559 := Az.mk ((by rw [hg]; exact Nat.ne_of_lt (blk_lt (g := gb542) (o := .cells #[.int .i64 t538, .int .i64 t539] 24 (0, 0)) (by (with_reducible repeat first | apply bkN | apply bkD | apply bkA); exact BK542.out)) : gb542 ≠ gb559)); have NB559_542 := Az.mk ((by rw [hg]; exact Nat.ne_of_gt (blk_lt (g := gb542) (o := .cells #[.int .i64 t538, .int .i64 t539] 24 (0, 0)) (by (with_reducible repeat first | apply bkN | apply bkD | apply bkA); exact BK542.out)) : gb559 ≠ gb542)); replace BK542 := Az.mk (bkB (g := gb542) (o := .cells #[.int .i64 t538, .int .i64 t539] 24 (0, 0)) (by (with_reducible repeat first | apply bkN | apply bkD | apply bkA); exact BK542.out) hb); have NB547_559 := Az.mk ((by rw [hg]; exact Nat.ne_of_lt (blk_lt (g := gb547) (o := .cells #[.int .i64 t543, .int .i64 t544] 24 (0, 0)) (by (with_reducible repeat first | apply bkN | apply bkD | apply bkA); exact BK547.out)) : gb547 ≠ gb559)); have NB559_547 := Az.mk ((by rw [hg]; exact Nat.ne_of_gt (blk_lt (g := gb547) (o := .cells #[.int .i64 t543, .int .i64 t544] 24 (0, 0)) (by (with_reducible repeat first | apply bkN | apply bkD | apply bkA); exact BK547.out)) : gb559 ≠ gb547)); replace BK547 := Az.mk (bkB (g := gb547) (o := .cells #[.int .i64 t543, .int .i64 t544] 24 (0, 0)) (by (with_reducible repeat first | apply bkN | apply bkD | apply bkA); exact BK547.out) hb); clear hb hbox hg; have hnb34 := NB559_542.out; have hnc34 := NB542_559.out; have hnb35 := NB559_547.out; have hnc35 := NB547_559.out; have hcz36_0 : w33.cell? ⟨gb559, 0, none⟩ = some (.int .i64 0) := (bkC BK559.out 0).trans rfl; have hcz36_1 : w33.cell? ⟨gb559, 1, none⟩ = some (.int .i64 0) := (bkC BK559.out 1).trans rfl; have hfz36_0 := bkF BK559.out 0; have hfz36_1 := bkF BK559.out 1) | ((with_reducible refine gtC (f := 54) rfl ?_); refine goesL_ (some 63) rfl rfl Try.func54 (by kernel_rfl) rfl #[.agg #[.int .i64 t556, .int .i64 t557], .int .i64 t545] rfl ln_36 ?_; (with_reducible refine (impl_CurveOfSlope.calls kj17 t556 t557 t545 t560 t563 _ A28.out).mono ?_); rintro e w37 ⟨v561, rfl, ho0, hb⟩; refine ⟨_, rfl, ?_⟩; have HO562 := Az.mk (Kd.R_lower ho0 (bwZ bw_36)); replace BK542 := Az.mk (bkB (g := gb542) (o := .cells #[.int .i64 t538, .int .i64 t539] 24 (0, 0)) (by (with_reducible repeat first | apply bkN | apply bkD | apply bkA); refine bkf ?_ NB542_559.out _; (with_reducible repeat first | apply bkN | apply bkD | apply bkA); refine bkf ?_ NB542_559.out _; (with_reducible repeat first | apply bkN | apply bkD | apply bkA); exact BK542.out) hb); replace BK547 := Az.mk (bkB (g := gb547) (o := .cells #[.int .i64 t543, .int .i64 t544] 24 (0, 0)) (by (with_reducible repeat first | apply bkN | apply bkD | apply bkA); refine bkf ?_ NB547_559.out _; (with_reducible repeat first | apply bkN | apply bkD | apply bkA); refine bkf ?_ NB547_559.out _; (with_reducible repeat first | apply bkN | apply bkD | apply bkA); exact BK547.out) hb); replace BK559 := Az.mk (bkB (g := gb559) (o := .cells #[.int .i64 t556, .int .i64 t557] 24 (0, 0)) (by (with_reducible repeat first | apply bkN | apply bkD | apply bkA); refine bkp (cs := #[.int .i64 t556, .int .i64 0]) ?_ 1 _ rfl; (with_reducible repeat first | apply bkN | apply bkD | apply bkA); refine bkp (cs := #[.int .i64 0, .int .i64 0]) ?_ 0 _ rfl; (with_reducible repeat first | apply bkN | apply bkD | apply bkA); exact BK559.out) hb); replace HB := Az.mk (bwT bw_36 hb); (try clear hb); (try clear ho0)))
     go_ret2
     exact ⟨_, by first | rfl | (simp [eWn, eWs] <;> rfl) | (simp [*, eWn, eWs] <;> rfl), by (with_reducible repeat (first | apply Kd.R_alloc | apply Kd.R_drewN | apply Kd.R_drew)); exact HO562.out, bw_36⟩

/-! ### laws_markIntS: function 19 -/
def laws_markIntS.l0 : Nat → List Int → Int → Int → Option (Int × List Int)
 | 0, _, _, _ => none
 | k + 1, x0, x1, x5 => if x5 < (x0.length : Int) then (if 0 ≤ x5 then (laws_markIntS.l0 k (x0.set (x5 : Int).toNat x1) (wrap64 (x1 + 1)) (wrap64 (x5 + 1))) else (none)) else (some (x1, x0))
def laws_markIntS.f (k : Nat) (l0 : List Int) (a1 : Int) : Option (Int × List Int) := laws_markIntS.l0 k l0 a1 0
theorem laws_markIntS.mono_l : ∀ k, (∀ y0 y1 y2, LeO (laws_markIntS.l0 k y0 y1 y2) (laws_markIntS.l0 (k + 1) y0 y1 y2))
 | 0 => fun _ _ _ r h => by simp [laws_markIntS.l0] at h
 | k + 1 => by
  have ih0 := laws_markIntS.mono_l k
  ·intro y0 y1 y2
   unfold laws_markIntS.l0
   repeat' first
   | (with_reducible exact ih0 _ _ _)
   | (with_reducible exact LeO.refl _)
   | (with_reducible exact LeO.none _)
   | (with_reducible refine LeO.ite ?_ ?_)
   | (with_reducible refine LeO.bind ?_ (fun _ => ?_))
   | exact ih0 _ _ _
   | exact LeO.none _
   | refine LeO.ite ?_ ?_
   | refine LeO.bind ?_ (fun _ => ?_)
theorem laws_markIntS.mono : ∀ a0 a1 k, LeO (laws_markIntS.f k a0 a1) (laws_markIntS.f (k + 1) a0 a1) := by
 intro a0 a1 k
 have ih0 := laws_markIntS.mono_l k
 unfold laws_markIntS.f
 repeat' first
   | (with_reducible exact ih0 _ _ _)
   | (with_reducible exact LeO.refl _)
   | (with_reducible exact LeO.none _)
   | (with_reducible refine LeO.ite ?_ ?_)
   | (with_reducible refine LeO.bind ?_ (fun _ => ?_))
   | exact ih0 _ _ _
   | exact LeO.none _
   | refine LeO.ite ?_ ?_
   | refine LeO.bind ?_ (fun _ => ?_)
set_option maxHeartbeats 8000000 in
set_option maxRecDepth 100000 in
theorem laws_markIntS.calls (k : Nat) (P0_ : Nat → Prop) (u9000_ : Value) (l0 : List Int) (a1 : Int) (r1 : Int) (r2 : List Int) (w0 w : World) (hB : Below w0.heap.size w0 w) (ho0 : Kd.R (Kd.int .i64) 3 w w0.heap.size P0_ u9000_ l0) (h : laws_markIntS.f k l0 a1 = some (r1, r2)) :
  Calls Try.prog 19 #[u9000_, .int .i64 a1] w fun e w' => e = .returned (.int .i64 r1) ∧ Kd.R (Kd.int .i64) 3 w' w0.heap.size (fun k_ => (P0_ k_ ∨ w.heap.size ≤ k_)) u9000_ r2 ∧ Below w0.heap.size w0 w' ∧ Kept w w' (fun k_ => P0_ k_) := by
 have HO0 := Az.mk (show Kd.R (Kd.int .i64) 3 w w0.heap.size (fun k_ => (P0_ k_ ∨ w.heap.size ≤ k_)) u9000_ l0 from Kd.R_mono ho0 (fun k_ hk => (.inl hk)))
 have HK := Az.mk (Kept.refl w (fun k_ => P0_ k_))
 have HW0 := Az.mk hB.size
 have HB := Az.mk hB
 clear hB
 have H : (laws_markIntS.l0 k l0 a1 0) = some (r1, r2) := h
 clear h
 have H' := Az.mk H
 clear H
 go_enter Try.func19, Try.ntmps19
 go_wp2
 go_loopg [1, 5] k (fun kq v1 v5 w' => ∃ (x0_1 : List Int) (x1_1 : Int) (x5_1 : Int), v1 = .int .i64 x1_1 ∧ v5 = .int .i64 x5_1 ∧ Az (laws_markIntS.l0 kq x0_1 x1_1 x5_1 = some (r1, r2)) ∧ Az (kq ≤ k) ∧ Az (Kd.R (Kd.int .i64) 3 w' w0.heap.size (fun k_ => (P0_ k_ ∨ w.heap.size ≤ k_)) u9000_ x0_1) ∧ Az (Kept w w' (fun k_ => P0_ k_)) ∧ Az (Below w0.heap.size w0 w'))
 case atStart => exact ⟨(l0), (a1), (0), (by first | rfl | (simp; done) | (simp [*]; done)), (by first | rfl | (simp; done) | (simp [*]; done)), H', ⟨Nat.le_refl _⟩, ⟨by (with_reducible repeat (first | apply Kd.R_alloc | apply Kd.R_drewN | apply Kd.R_drew)); exact HO0.out⟩, ⟨by repeat (first | (with_reducible first | exact HK.out | apply Kept.alloc | apply Kept.drewN | apply Kept.drew) | exact HK.out)⟩, ⟨bw_36⟩⟩
 case round =>
  clear H'
  try clear c1
  try clear p2
  obtain ⟨x0_1, x1_1, x5_1, rfl, rfl, HA, HK1, HO_0, HK, HB⟩ := hrel
  cases gk with
  | zero => exact absurd HA.out (by simp [laws_markIntS.l0])
  | succ k1 =>
   have H := HA.out
   clear HA
   simp only [laws_markIntS.l0] at H
   by_cases c3 : x5_1 < (x0_1.length : Int)
   rotate_left
   ·rw [if_neg c3] at H
    have c3b0 : decide (x5_1 < (x0_1.length : Int)) = false := decide_eq_false c3
    clear c3
    simp only [Option.some.injEq, Prod.mk.injEq] at H
    obtain ⟨rfl, rfl⟩ := H
    obtain ⟨Ao9, co9, eo9⟩ := Kd.R_slice HO_0.out
    subst eo9
    go_wp2
    go_ret
    exact ⟨by first | rfl | (simp [eWn, eWs] <;> rfl) | (simp [*, eWn, eWs] <;> rfl), by (with_reducible repeat (first | apply Kd.R_alloc | apply Kd.R_drewN | apply Kd.R_drew)); exact HO_0.out, by repeat (first | (with_reducible first | exact HB.out | apply bwA | apply pbN | apply bwD) | exact HB.out), by repeat (first | (with_reducible first | exact HK.out | apply Kept.alloc | apply Kept.drewN | apply Kept.drew) | exact HK.out)⟩
   rw [if_pos c3] at H
   have c3b0 : decide (x5_1 < (x0_1.length : Int)) = true := decide_eq_true c3
   clear c3
   by_cases c4 : 0 ≤ x5_1
   rotate_left
   ·rw [if_neg c4] at H
    exact absurd H (by simp)
   rw [if_pos c4] at H
   have c4b0 : decide (0 ≤ x5_1) = true := decide_eq_true c4
   clear c4
   obtain ⟨y564, hy564⟩ : ∃ y_ : List Int, y_ = (x0_1.set (x5_1 : Int).toNat x1_1) := ⟨_, rfl⟩
   replace H : (laws_markIntS.l0 k1 y564 (wrap64 (x1_1 + 1)) (wrap64 (x5_1 + 1))) = some (r1, r2) := by first | (rw [hy564]; with_reducible exact H) | (have H2_ := (Option.bind_some _ _).symm.trans H; rw [hy564]; with_reducible exact H2_) | (have H2_ := (Option.bind_some _ _).symm.trans H; with_reducible exact H2_) | with_reducible exact H | (rw [hy564]; exact H) | exact H
   have Ny564 := Az.mk hy564
   clear hy564
   have H' := Az.mk H
   clear H
   obtain ⟨Ao6, co6, eo6⟩ := Kd.R_slice HO_0.out
   subst eo6
   have p5 : 0 ≤ (x5_1 : Int) := of_decide_eq_true (by first | (with_reducible assumption) | assumption)
   have q5 : (x5_1 : Int) < ((x0_1.length : Int) : Int) := of_decide_eq_true (by first | (with_reducible assumption) | assumption)
   obtain ⟨go5, co5, eo5, gb5, gl5, cl5, HG5⟩ := Kd.R_form HO_0.out (by omega)
   (first | cases eo5 | (injection eo5 with ea_ en_ ec_; (first | subst ea_ | (injection ea_ with ea_; subst ea_)); subst ec_; clear en_))
   have GB5 := Az.mk gb5
   have GG5 := Az.mk HG5
   clear gb5 gl5 HG5
   have HMgo5 := Az.mk (show (P0_ go5 ∨ w.heap.size ≤ go5) from (HO_0.out.1 _ rfl))
   obtain ⟨hx5_0, hf5_0⟩ := Kd.R_celln 0 HO_0.out (x5_1 : Int) p5 q5
   replace p5 := eq_true p5
   replace q5 := eq_true q5
   have HP7 := Kd.R_putg HO_0.out (x5_1 : Int) x1_1
   go_wp2_with (first | ((with_reducible refine gate_store (t := 3) (p := 15) rfl ?_); refine store_event (t := 3) (p := 15) (v := ?vo_w8) (w1 := (wr.setCell ⟨go5, (x5_1 : Int).toNat, none⟩ (.int .i64 x1_1))) ?hg ?ho ?hn ?hr ?_; (case ho => rfl); (case hg => rfl); (case hn => rfl); (case hr => first | (go_simp; done) | (go_simp; rfl)); intro w8 hw; have hg : wr.grownBy w8 (some go5) := (by rw [hw]; exact HP7.2); have hp_ : Kd.R (Kd.int .i64) 3 w8 w0.heap.size (fun k_ => (P0_ k_ ∨ w.heap.size ≤ k_)) (.slice (some ⟨go5, 0, none⟩) x0_1.length co6) y564 := (by rw [hw, Ny564.out]; exact HP7.1); clear HP7; replace HB := Az.mk ((by rw [hw]; exact bwS (HB.out) GB5.out : Below w0.heap.size w0 w8)); replace HK := Az.mk (Kept.of_grown (S := (fun k_ => P0_ k_)) hg (by repeat (first | (with_reducible first | exact HK.out | apply Kept.alloc | apply Kept.drewN | apply Kept.drew) | exact HK.out)) (fun k_ e_ => (HO_0.out.1 k_ e_))); replace HO_0 := Az.mk (hp_); clear hg hw hp_))
   go_roundg k1
   case measure => have := HK1.out; omega
   case rel => exact ⟨(y564), (wrap64 (x1_1 + 1)), (wrap64 (x5_1 + 1)), (by first | rfl | (simp; done) | (simp [*]; done)), (by first | rfl | (simp; done) | (simp [*]; done)), H', ⟨by have := HK1.out; omega⟩, ⟨by (with_reducible repeat (first | apply Kd.R_alloc | apply Kd.R_drewN | apply Kd.R_drew)); exact HO_0.out⟩, ⟨by repeat (first | (with_reducible first | exact HK.out | apply Kept.alloc | apply Kept.drewN | apply Kept.drew) | exact HK.out)⟩, ⟨bw_36⟩⟩

end Go.Proofs.Ytjmgbaphlhimhaa.P
