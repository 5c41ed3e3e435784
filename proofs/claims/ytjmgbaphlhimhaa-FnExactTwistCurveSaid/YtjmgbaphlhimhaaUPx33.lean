-- By this session's driver (wip/tools/mk.py) of the kit's print program, over several statements at once. Not trusted: Lean checks it.
import Derived.Test.YtjmgbaphlhimhaaUPx0
import Derived.Test.YtjmgbaphlhimhaaUPx1
import Derived.Test.YtjmgbaphlhimhaaUPx8
import Derived.Test.YtjmgbaphlhimhaaUPx16
import Derived.Test.YtjmgbaphlhimhaaUPx19
import Derived.Test.YtjmgbaphlhimhaaUPx31
import Derived.Test.YtjmgbaphlhimhaaUPx32
namespace Go.Proofs.Ytjmgbaphlhimhaa.P
open Go.RowKit Go.Proofs.YtjmgbaphlhimhaaW.PrintWords Go.Proofs.YtjmgbaphlhimhaaW.PrintLast Go.Proofs.YtjmgbaphlhimhaaW.PrintMore
attribute [local go_sem] max2_int min2_int max_two min_two max_three min_three max_four min_four   -- for this text's walks alone
set_option linter.unusedVariables false
set_option linter.unusedSimpArgs false
theorem bw_33 {n : Nat} {v v' : World} (h : Below n v v' := by repeat (first | (with_reducible first | exact HB.out | apply bwA | apply pbN | apply bwD | refine bwS ?_ GE464.out | refine bwS ?_ GE469.out | refine bwS ?_ GE484.out | refine bwS ?_ GE495.out) | exact HB.out)) : Below n v v' := h
theorem ln_33 {P : Prop} (h : P := by (try simp only [List.map_toArray, List.map_cons, List.map_nil]); first | done | rfl | (simp only [List.length_drop, List.length_take]; rfl)) : P := h
open Option renaming bind_eq_some_iff → be

/-! ### spec_TwistCurve: function 17 -/
mutual
def spec_TwistCurve.j0 : Nat → List Int → Int → Int → Int → Bool → Int → Int → Int → Int → Option (List Int × Bool)
 | 0, _, _, _, _, _, _, _, _, _ => none
 | k + 1, x1, x2, x9, x12, x42, x465000, x465001, x470000, x470001 => if x42 = true then (some ((([] : List Int)), false)) else (if x9 = 0 then (spec_TwistCurve.j1 k x1 x2 x9 x12 true x465000 x465001 x470000 x470001) else (spec_TwistCurve.j1 k x1 x2 x9 x12 (x12 == 0) x465000 x465001 x470000 x470001))
def spec_TwistCurve.j1 : Nat → List Int → Int → Int → Int → Bool → Int → Int → Int → Int → Option (List Int × Bool)
 | 0, _, _, _, _, _, _, _, _, _ => none
 | k + 1, x1, x2, x9, x12, x49, x465000, x465001, x470000, x470001 => if x49 = true then ((spec_l17Tri.f).bind fun t474 => ((spec_PlainCurve.f k t474 x1).bind fun bt477 => (some (bt477.1, bt477.2)))) else ((spec_TwistSlope.f k x465000 x465001 x470000 x470001 (wrap64 (x2 * x9))).bind fun bt481 => (if bt481.2.2 = true then (if x12 > 20 then (some ((([] : List Int)), false)) else ((spec_CurveOfSlope.f k bt481.1 bt481.2.1 x12).bind fun bt488 => (some (bt488.1, bt488.2)))) else (some ((([] : List Int)), false))))
end
def spec_TwistCurve.f (k : Nat) (l0 : List Int) (l1 : List Int) (a2 : Int) : Option (List Int × Bool) := (spec_SlopeOfCurve.f k l0).bind fun bt460 => ((spec_SlopeOfCurve.f k l1).bind fun bt465 => (if bt460.2.2.2 = true then (if bt465.2.2.2 = true then ((spec_l1In.f a2 (-20) 20).bind fun t470 => (spec_TwistCurve.j0 k l1 a2 bt460.2.2.1 bt465.2.2.1 (!t470) bt460.1 bt460.2.1 bt465.1 bt465.2.1)) else (spec_TwistCurve.j0 k l1 a2 bt460.2.2.1 bt465.2.2.1 true bt460.1 bt460.2.1 bt465.1 bt465.2.1)) else (spec_TwistCurve.j0 k l1 a2 bt460.2.2.1 bt465.2.2.1 true bt460.1 bt460.2.1 bt465.1 bt465.2.1)))
theorem spec_TwistCurve.mono_l : ∀ k, (∀ y0 y1 y2 y3 y4 y5 y6 y7 y8, LeO (spec_TwistCurve.j0 k y0 y1 y2 y3 y4 y5 y6 y7 y8) (spec_TwistCurve.j0 (k + 1) y0 y1 y2 y3 y4 y5 y6 y7 y8)) ∧ (∀ y0 y1 y2 y3 y4 y5 y6 y7 y8, LeO (spec_TwistCurve.j1 k y0 y1 y2 y3 y4 y5 y6 y7 y8) (spec_TwistCurve.j1 (k + 1) y0 y1 y2 y3 y4 y5 y6 y7 y8))
 | 0 => ⟨fun _ _ _ _ _ _ _ _ _ r h => by simp [spec_TwistCurve.j0] at h, fun _ _ _ _ _ _ _ _ _ r h => by simp [spec_TwistCurve.j1] at h⟩
 | k + 1 => by
  obtain ⟨ih0, ih1⟩ := spec_TwistCurve.mono_l k
  refine ⟨?_, ?_⟩
  ·intro y0 y1 y2 y3 y4 y5 y6 y7 y8
   unfold spec_TwistCurve.j0
   repeat' first
   | (with_reducible exact ih0 _ _ _ _ _ _ _ _ _)
   | (with_reducible exact ih1 _ _ _ _ _ _ _ _ _)
   | (with_reducible exact spec_CurveOfSlope.mono _ _ _ _)
   | (with_reducible exact spec_PlainCurve.mono _ _ _)
   | (with_reducible exact spec_SlopeOfCurve.mono _ _)
   | (with_reducible exact spec_TwistSlope.mono _ _ _ _ _ _)
   | (with_reducible exact LeO.refl _)
   | (with_reducible exact LeO.none _)
   | (with_reducible refine LeO.ite ?_ ?_)
   | (with_reducible refine LeO.bind ?_ (fun _ => ?_))
   | exact ih0 _ _ _ _ _ _ _ _ _
   | exact ih1 _ _ _ _ _ _ _ _ _
   | exact spec_CurveOfSlope.mono _ _ _ _
   | exact spec_PlainCurve.mono _ _ _
   | exact spec_SlopeOfCurve.mono _ _
   | exact spec_TwistSlope.mono _ _ _ _ _ _
   | exact LeO.none _
   | refine LeO.ite ?_ ?_
   | refine LeO.bind ?_ (fun _ => ?_)
  intro y0 y1 y2 y3 y4 y5 y6 y7 y8
  unfold spec_TwistCurve.j1
  repeat' first
  | (with_reducible exact ih0 _ _ _ _ _ _ _ _ _)
  | (with_reducible exact ih1 _ _ _ _ _ _ _ _ _)
  | (with_reducible exact spec_CurveOfSlope.mono _ _ _ _)
  | (with_reducible exact spec_PlainCurve.mono _ _ _)
  | (with_reducible exact spec_SlopeOfCurve.mono _ _)
  | (with_reducible exact spec_TwistSlope.mono _ _ _ _ _ _)
  | (with_reducible exact LeO.refl _)
  | (with_reducible exact LeO.none _)
  | (with_reducible refine LeO.ite ?_ ?_)
  | (with_reducible refine LeO.bind ?_ (fun _ => ?_))
  | exact ih0 _ _ _ _ _ _ _ _ _
  | exact ih1 _ _ _ _ _ _ _ _ _
  | exact spec_CurveOfSlope.mono _ _ _ _
  | exact spec_PlainCurve.mono _ _ _
  | exact spec_SlopeOfCurve.mono _ _
  | exact spec_TwistSlope.mono _ _ _ _ _ _
  | exact LeO.none _
  | refine LeO.ite ?_ ?_
  | refine LeO.bind ?_ (fun _ => ?_)
theorem spec_TwistCurve.mono : ∀ a0 a1 a2 k, LeO (spec_TwistCurve.f k a0 a1 a2) (spec_TwistCurve.f (k + 1) a0 a1 a2) := by
 intro a0 a1 a2 k
 obtain ⟨ih0, ih1⟩ := spec_TwistCurve.mono_l k
 unfold spec_TwistCurve.f
 repeat' first
   | (with_reducible exact ih0 _ _ _ _ _ _ _ _ _)
   | (with_reducible exact ih1 _ _ _ _ _ _ _ _ _)
   | (with_reducible exact spec_CurveOfSlope.mono _ _ _ _)
   | (with_reducible exact spec_PlainCurve.mono _ _ _)
   | (with_reducible exact spec_SlopeOfCurve.mono _ _)
   | (with_reducible exact spec_TwistSlope.mono _ _ _ _ _ _)
   | (with_reducible exact LeO.refl _)
   | (with_reducible exact LeO.none _)
   | (with_reducible refine LeO.ite ?_ ?_)
   | (with_reducible refine LeO.bind ?_ (fun _ => ?_))
   | exact ih0 _ _ _ _ _ _ _ _ _
   | exact ih1 _ _ _ _ _ _ _ _ _
   | exact spec_CurveOfSlope.mono _ _ _ _
   | exact spec_PlainCurve.mono _ _ _
   | exact spec_SlopeOfCurve.mono _ _
   | exact spec_TwistSlope.mono _ _ _ _ _ _
   | exact LeO.none _
   | refine LeO.ite ?_ ?_
   | refine LeO.bind ?_ (fun _ => ?_)
set_option maxHeartbeats 8000000 in
set_option maxRecDepth 100000 in
theorem spec_TwistCurve.calls (k : Nat) (A0 : Option Addr) (c0 : Nat) (l0 : List Int) (A1 : Option Addr) (c1 : Nat) (l1 : List Int) (a2 : Int) (r1 : List Int) (r2 : Bool) (w : World) (hr0 : Kd.C (Kd.int .i64) w A0 l0.length l0) (hc0 : l0.length ≤ c0) (hr1 : Kd.C (Kd.int .i64) w A1 l1.length l1) (hc1 : l1.length ≤ c1) (h : spec_TwistCurve.f k l0 l1 a2 = some (r1, r2)) :
  Calls Try.prog 17 #[.slice A0 l0.length c0, .slice A1 l1.length c1, .int .i64 a2] w fun e w' => ∃ v0_ : Value, e = .returned (.tuple #[v0_, .bool r2]) ∧ Kd.R (Kd.int .i64) 3 w' w.heap.size (fun _ => True) v0_ r1 ∧ Below w.heap.size w w' := by
 have hu24 := Try.underlying24
 have HR0 := Az.mk hr0
 have HC0 := Az.mk hc0
 clear hr0 hc0
 have HR1 := Az.mk hr1
 have HC1 := Az.mk hc1
 clear hr1 hc1
 have HB := Az.mk (Below.refl w.heap.size w)
 have H : ((spec_SlopeOfCurve.f k l0).bind fun bt460 => ((spec_SlopeOfCurve.f k l1).bind fun bt465 => (if bt460.2.2.2 = true then (if bt465.2.2.2 = true then ((spec_l1In.f a2 (-20) 20).bind fun t470 => (spec_TwistCurve.j0 k l1 a2 bt460.2.2.1 bt465.2.2.1 (!t470) bt460.1 bt460.2.1 bt465.1 bt465.2.1)) else (spec_TwistCurve.j0 k l1 a2 bt460.2.2.1 bt465.2.2.1 true bt460.1 bt460.2.1 bt465.1 bt465.2.1)) else (spec_TwistCurve.j0 k l1 a2 bt460.2.2.1 bt465.2.2.1 true bt460.1 bt460.2.1 bt465.1 bt465.2.1)))) = some (r1, r2) := h
 clear h
 replace H := be.mp H
 obtain ⟨⟨t460, t461, t462, t463⟩, A40, H⟩ := H
 try dsimp only at H
 have A4 := Az.mk A40
 clear A40
 replace H := be.mp H
 obtain ⟨⟨t465, t466, t467, t468⟩, A50, H⟩ := H
 try dsimp only at H
 have A5 := Az.mk A50
 clear A50
 have HC6 := Az.mk H
 clear H
 go_enter Try.func17, Try.ntmps17
 go_upto_region 3 with (first | ((with_reducible refine gtC (f := 8) rfl ?_); refine goesL_ (some 22) rfl rfl Try.func8 (by kernel_rfl) rfl #[.slice A0 l0.length c0] rfl ln_33 ?_; (with_reducible refine (spec_SlopeOfCurve.calls k _ _ l0 t460 t461 t462 t463 _ ?side1 ?side2 A4.out).mono ?_); (case side1 => repeat (first | exact HR0.out | (with_reducible refine Kd.C_alloc ?_ _) | (with_reducible refine Kd.C_drewN ?_ _) | (with_reducible refine Kd.C_drew ?_))); (case side2 => exact HC0.out); rintro e w7 ⟨rfl, hb⟩; refine ⟨_, rfl, ?_⟩; replace HB := Az.mk (bwT bw_33 hb); (try clear hb)) | ((with_reducible refine gtD (N := 8) rfl ?_); refine bxE ?hg (N := 8) ?hd (cs := #[.int .i64 0, .int .i64 0]) (t := 24) ?hr ?_; (case hd => rfl); (case hg => rfl); (case hr => first | (go_simp; done) | (go_simp; rfl)); intro gb464 hg w8 hbox hb; have BK464 := Az.mk (hbox); have GW464 := Az.mk ((by rw [hg]; exact (bwZ bw_33) : w.heap.size ≤ gb464)); have GE464 := Az.mk ((by rw [hg]; exact (bwZ bw_33) : w.heap.size ≤ gb464)); replace HB := Az.mk (bwT bw_33 hb); clear hb hbox hg; have hcz9_0 : w8.cell? ⟨gb464, 0, none⟩ = some (.int .i64 0) := (bkC BK464.out 0).trans rfl; have hcz9_1 : w8.cell? ⟨gb464, 1, none⟩ = some (.int .i64 0) := (bkC BK464.out 1).trans rfl; have hfz9_0 := bkF BK464.out 0; have hfz9_1 := bkF BK464.out 1) | ((with_reducible refine gtC (f := 8) rfl ?_); refine goesL_ (some 28) rfl rfl Try.func8 (by kernel_rfl) rfl #[.slice A1 l1.length c1] rfl ln_33 ?_; (with_reducible refine (spec_SlopeOfCurve.calls k _ _ l1 t465 t466 t467 t468 _ ?side1 ?side2 A5.out).mono ?_); (case side1 => exact Kd.C_below HR1.out bw_33); (case side2 => exact HC1.out); rintro e w10 ⟨rfl, hb⟩; refine ⟨_, rfl, ?_⟩; replace BK464 := Az.mk (bkB (g := gb464) (o := .cells #[.int .i64 t460, .int .i64 t461] 24 (0, 0)) (by (with_reducible repeat first | apply bkN | apply bkD | apply bkA); refine bkp (cs := #[.int .i64 t460, .int .i64 0]) ?_ 1 _ rfl; (with_reducible repeat first | apply bkN | apply bkD | apply bkA); refine bkp (cs := #[.int .i64 0, .int .i64 0]) ?_ 0 _ rfl; (with_reducible repeat first | apply bkN | apply bkD | apply bkA); exact BK464.out) hb); replace HB := Az.mk (bwT bw_33 hb); (try clear hb)) | ((with_reducible refine gtD (N := 11) rfl ?_); refine bxE ?hg (N := 11) ?hd (cs := #[.int .i64 0, .int .i64 0]) (t := 24) ?hr ?_; (case hd => rfl); (case hg => rfl); (case hr => first | (go_simp; done) | (go_simp; rfl)); intro gb469 hg w11 hbox hb; have BK469 := Az.mk (hbox); have GW469 := Az.mk ((by rw [hg]; exact (bwZ bw_33) : w.heap.size ≤ gb469)); have GE469 := Az.mk ((by rw [hg]; exact (bwZ bw_33) : w.heap.size ≤ gb469)); replace HB := Az.mk (bwT bw_33 hb); have NB464_469 := Az.mk ((by rw [hg]; exact Nat.ne_of_lt (blk_lt (g := gb464) (o := .cells #[.int .i64 t460, .int .i64 t461] 24 (0, 0)) (by (with_reducible repeat first | apply bkN | apply bkD | apply bkA); exact BK464.out)) : gb464 ≠ gb469)); have NB469_464 := Az.mk ((by rw [hg]; exact Nat.ne_of_gt (blk_lt (g := gb464) (o := .cells #[.int .i64 t460, .int .i64 t461] 24 (0, 0)) (by (with_reducible repeat first | apply bkN | apply bkD | apply bkA); exact BK464.out)) : gb469 ≠ gb464)); replace BK464 := Az.mk (bkB (g := gb464) (o := .cells #[.int .i64 t460, .int .i64 t461] 24 (0, 0)) (by (with_reducible repeat first | apply bkN | apply bkD | apply bkA); exact BK464.out) hb); clear hb hbox hg; have hnb12 := NB469_464.out; have hnc12 := NB464_469.out; have hcz13_0 : w11.cell? ⟨gb469, 0, none⟩ = some (.int .i64 0) := (bkC BK469.out 0).trans rfl; have hcz13_1 : w11.cell? ⟨gb469, 1, none⟩ = some (.int .i64 0) := (bkC BK469.out 1).trans rfl; have hfz13_0 := bkF BK469.out 0; have hfz13_1 := bkF BK469.out 1))
 (try simp only [Act.put, List.setIfInBounds_toArray, List.set_cons_zero, List.set_cons_succ])
 go_cut [42] (fun v42 wc => ∃ (kq : Nat) (x42_5 : Bool), v42 = .bool x42_5 ∧ Az (spec_TwistCurve.j0 kq l1 a2 t462 t467 x42_5 t460 t461 t465 t466 = some (r1, r2)) ∧ Az (kq ≤ k) ∧ Az (wc.heap[gb464]? = some (.cells #[.int .i64 t460, .int .i64 t461] 24 (0, 0))) ∧ Az (wc.heap[gb469]? = some (.cells #[.int .i64 t465, .int .i64 t466] 24 (0, 0))) ∧ Az (Below w.heap.size w wc))
 case first =>
  have H := HC6.out
  clear HC6
  by_cases c14 : t463 = true
  rotate_left
  ·replace c14 := Bool.eq_false_iff.mpr c14
   subst c14
   rw [if_neg (show ¬ (false = true) by decide)] at H
   have H' := Az.mk H
   clear H
   go_wp2
   go_meet
   case rel => exact ⟨_, (true), (by first | rfl | (simp; done) | (simp [*]; done)), H', ⟨by first | omega | exact Nat.le_refl _⟩, ⟨by (with_reducible repeat first | apply bkN | apply bkD | apply bkA); refine bkf ?_ NB464_469.out _; (with_reducible repeat first | apply bkN | apply bkD | apply bkA); refine bkf ?_ NB464_469.out _; (with_reducible repeat first | apply bkN | apply bkD | apply bkA); exact BK464.out⟩, ⟨by (with_reducible repeat first | apply bkN | apply bkD | apply bkA); refine bkp (cs := #[.int .i64 t465, .int .i64 0]) ?_ 1 _ rfl; (with_reducible repeat first | apply bkN | apply bkD | apply bkA); refine bkp (cs := #[.int .i64 0, .int .i64 0]) ?_ 0 _ rfl; (with_reducible repeat first | apply bkN | apply bkD | apply bkA); exact BK469.out⟩, ⟨bw_33⟩⟩
  subst c14
  rw [if_pos rfl] at H
  by_cases c15 : t468 = true
  rotate_left
  ·replace c15 := Bool.eq_false_iff.mpr c15
   subst c15
   rw [if_neg (show ¬ (false = true) by decide)] at H
   have H' := Az.mk H
   clear H
   go_wp2
   go_meet
   case rel => exact ⟨_, (true), (by first | rfl | (simp; done) | (simp [*]; done)), H', ⟨by first | omega | exact Nat.le_refl _⟩, ⟨by (with_reducible repeat first | apply bkN | apply bkD | apply bkA); refine bkf ?_ NB464_469.out _; (with_reducible repeat first | apply bkN | apply bkD | apply bkA); refine bkf ?_ NB464_469.out _; (with_reducible repeat first | apply bkN | apply bkD | apply bkA); exact BK464.out⟩, ⟨by (with_reducible repeat first | apply bkN | apply bkD | apply bkA); refine bkp (cs := #[.int .i64 t465, .int .i64 0]) ?_ 1 _ rfl; (with_reducible repeat first | apply bkN | apply bkD | apply bkA); refine bkp (cs := #[.int .i64 0, .int .i64 0]) ?_ 0 _ rfl; (with_reducible repeat first | apply bkN | apply bkD | apply bkA); exact BK469.out⟩, ⟨bw_33⟩⟩
  subst c15
  rw [if_pos rfl] at H
  replace H := be.mp H
  obtain ⟨t470, A160, H⟩ := H
  try dsimp only at H
  have A16 := Az.mk A160
  clear A160
  have H' := Az.mk H
  clear H
  go_wp2_with (first | (go_at_call 49; (with_reducible refine (spec_l1In.calls a2 (-20) 20 t470 _ A16.out).mono ?_); rintro e w' ⟨rfl, ⟨nd, rfl⟩⟩))
  go_meet
  case rel => exact ⟨_, (!t470), (by first | rfl | (simp; done) | (simp [*]; done)), H', ⟨by first | omega | exact Nat.le_refl _⟩, ⟨by (with_reducible repeat first | apply bkN | apply bkD | apply bkA); refine bkf ?_ NB464_469.out _; (with_reducible repeat first | apply bkN | apply bkD | apply bkA); refine bkf ?_ NB464_469.out _; (with_reducible repeat first | apply bkN | apply bkD | apply bkA); exact BK464.out⟩, ⟨by (with_reducible repeat first | apply bkN | apply bkD | apply bkA); refine bkp (cs := #[.int .i64 t465, .int .i64 0]) ?_ 1 _ rfl; (with_reducible repeat first | apply bkN | apply bkD | apply bkA); refine bkp (cs := #[.int .i64 0, .int .i64 0]) ?_ 0 _ rfl; (with_reducible repeat first | apply bkN | apply bkD | apply bkA); exact BK469.out⟩, ⟨bw_33⟩⟩
 case rest =>
  clear HC6
  try clear c1
  try clear p2
  try clear c8
  try clear c12
  try clear c14
  try clear c15
  try clear hcz13_0
  try clear hcz13_1
  try clear hcz9_0
  try clear hcz9_1
  try clear hfz13_0
  try clear hfz13_1
  try clear hfz9_0
  try clear hfz9_1
  obtain ⟨kq, x42_5, rfl, HA, HJ5, BK464, BK469, HB⟩ := hcut
  cases kq with
  | zero => exact absurd HA.out (by simp [spec_TwistCurve.j0])
  | succ kj5 =>
   have H := HA.out
   clear HA
   simp only [spec_TwistCurve.j0] at H
   by_cases c17 : x42_5 = true
   ·subst c17
    rw [if_pos rfl] at H
    obtain ⟨y471, hy471⟩ : ∃ y_ : List Int, y_ = (([] : List Int)) := ⟨_, rfl⟩
    replace H : (some (y471, false)) = some (r1, r2) := by first | (rw [hy471]; with_reducible exact H) | (have H2_ := (Option.bind_some _ _).symm.trans H; rw [hy471]; with_reducible exact H2_) | (have H2_ := (Option.bind_some _ _).symm.trans H; with_reducible exact H2_) | with_reducible exact H | (rw [hy471]; exact H) | exact H
    have Ny471 := Az.mk hy471
    clear hy471
    simp only [Option.some.injEq, Prod.mk.injEq] at H
    obtain ⟨rfl, rfl⟩ := H
    go_wp2_with (first | ((with_reducible refine gtD (N := 43) rfl ?_); refine Kd.R_lit (Kd.int .i64) _ 3 ?hg (N := 43) ?hd (xs := ([] : List Int)) (inner := []) (ok := fun _ => True) (okp := fun _ => True) ?hr ?hp (fun _ hk => hk) trivial (Below.refl _ _) (Nat.le_refl _) (by simp) ?_; (case hd => rfl); (case hg => rfl); (case hr => first | (go_simp; done) | (go_simp; rfl)); (case hp => exact (Reps.none _ _)); intro v472 w18 ho19 hb hg_ hnew_; clear hg_ hnew_; (first | rw [← Ny471.out] at ho19 | (simp only [Int.reduceToNat] at ho19; rw [← Ny471.out] at ho19)); have HO473 := Az.mk (Kd.R_lower ho19 (bwZ bw_33)); replace BK464 := Az.mk (bkB (g := gb464) (o := .cells #[.int .i64 t460, .int .i64 t461] 24 (0, 0)) (by (with_reducible repeat first | apply bkN | apply bkD | apply bkA); exact BK464.out) hb); replace BK469 := Az.mk (bkB (g := gb469) (o := .cells #[.int .i64 t465, .int .i64 t466] 24 (0, 0)) (by (with_reducible repeat first | apply bkN | apply bkD | apply bkA); exact BK469.out) hb); replace HB := Az.mk (bwT bw_33 hb); clear hb ho19))
    go_ret2
    exact ⟨_, by first | rfl | (simp [eWn, eWs] <;> rfl) | (simp [*, eWn, eWs] <;> rfl), by (with_reducible repeat (first | apply Kd.R_alloc | apply Kd.R_drewN | apply Kd.R_drew)); exact HO473.out, bw_33⟩
   replace c17 := Bool.eq_false_iff.mpr c17
   subst c17
   rw [if_neg (show ¬ (false = true) by decide)] at H
   have HC20 := Az.mk H
   clear H
   go_upto_region 5 with (fail)
   go_cut [49] (fun v49 wc => ∃ (kq : Nat) (x49_19 : Bool), v49 = .bool x49_19 ∧ Az (spec_TwistCurve.j1 kq l1 a2 t462 t467 x49_19 t460 t461 t465 t466 = some (r1, r2)) ∧ Az (kq ≤ kj5) ∧ Az (wc.heap[gb464]? = some (.cells #[.int .i64 t460, .int .i64 t461] 24 (0, 0))) ∧ Az (wc.heap[gb469]? = some (.cells #[.int .i64 t465, .int .i64 t466] 24 (0, 0))) ∧ Az (Below w.heap.size w wc))
   case first =>
    have H := HC20.out
    clear HC20
    by_cases c21 : t462 = 0
    rotate_left
    ·rw [if_neg c21] at H
     have c21b0 : (t462 == 0) = false := beq_eq_false_iff_ne.mpr c21
     have c21b1 : (t462 != 0) = true := bne_iff_ne.mpr c21
     (first | rw [c21b0] | (simp only [i64_w, i32_w]; rw [c21b0]) | skip)
     have H' := Az.mk H
     clear H
     go_wp2
     go_meet
     case rel => exact ⟨_, ((t467 == 0)), (by first | rfl | (simp; done) | (simp [*]; done)), H', ⟨by have := HJ5.out; first | omega | exact Nat.le_refl _⟩, ⟨by (with_reducible repeat first | apply bkN | apply bkD | apply bkA); exact BK464.out⟩, ⟨by (with_reducible repeat first | apply bkN | apply bkD | apply bkA); exact BK469.out⟩, ⟨bw_33⟩⟩
    rw [if_pos c21] at H
    have c21b0 : (t462 == 0) = true := beq_iff_eq.mpr c21
    have c21b1 : (t462 != 0) = false := bne_eq_false_iff_eq.mpr c21
    clear c21
    (first | rw [c21b0] | (simp only [i64_w, i32_w]; rw [c21b0]) | skip)
    have H' := Az.mk H
    clear H
    go_wp2
    go_meet
    case rel => exact ⟨_, (true), (by first | rfl | (simp; done) | (simp [*]; done)), H', ⟨by have := HJ5.out; first | omega | exact Nat.le_refl _⟩, ⟨by (with_reducible repeat first | apply bkN | apply bkD | apply bkA); exact BK464.out⟩, ⟨by (with_reducible repeat first | apply bkN | apply bkD | apply bkA); exact BK469.out⟩, ⟨bw_33⟩⟩
   case rest =>
    clear HC20
    try clear c1
    try clear c2
    try clear p2
    try clear c8
    try clear c12
    try clear c14
    try clear c15
    try clear c17
    try clear c21
    try clear c21b0
    try clear c21b1
    try clear hcz13_0
    try clear hcz13_1
    try clear hcz9_0
    try clear hcz9_1
    try clear hfz13_0
    try clear hfz13_1
    try clear hfz9_0
    try clear hfz9_1
    try clear p2
    obtain ⟨kq, x49_19, rfl, HA, HJ19, BK464, BK469, HB⟩ := hcut
    cases kq with
    | zero => exact absurd HA.out (by simp [spec_TwistCurve.j1])
    | succ kj19 =>
     have H := HA.out
     clear HA
     simp only [spec_TwistCurve.j1] at H
     by_cases c22 : x49_19 = true
     ·subst c22
      rw [if_pos rfl] at H
      replace H := be.mp H
      obtain ⟨t474, A230, H⟩ := H
      try dsimp only at H
      have A23 := Az.mk A230
      clear A230
      replace H := be.mp H
      obtain ⟨⟨t477, t478⟩, A240, H⟩ := H
      try dsimp only at H
      have A24 := Az.mk A240
      clear A240
      simp only [Option.some.injEq, Prod.mk.injEq] at H
      obtain ⟨rfl, rfl⟩ := H
      go_wp2_with (first | ((with_reducible refine gtC (f := 37) rfl ?_); refine goesL_ (some 51) rfl rfl Try.func37 (by kernel_rfl) rfl #[] rfl ln_33 ?_; (with_reducible refine (spec_l17Tri.calls  t474 _ A23.out).mono ?_); rintro e w25 ⟨v475, rfl, ho0, hb⟩; refine ⟨_, rfl, ?_⟩; have HO476 := Az.mk (Kd.N_lower (Kd.N_mono (ok' := fun k_ => k_ ≠ gb464 ∧ k_ ≠ gb469) ho0 (fun k_ hk_ => ⟨(Kd.freshB (g := gb464) (o := .cells #[.int .i64 t460, .int .i64 t461] 24 (0, 0)) (by (with_reducible repeat first | apply bkN | apply bkD | apply bkA); exact BK464.out) k_ hk_), (Kd.freshB (g := gb469) (o := .cells #[.int .i64 t465, .int .i64 t466] 24 (0, 0)) (by (with_reducible repeat first | apply bkN | apply bkD | apply bkA); exact BK469.out) k_ hk_)⟩)) (bwZ bw_33)); replace BK464 := Az.mk (bkB (g := gb464) (o := .cells #[.int .i64 t460, .int .i64 t461] 24 (0, 0)) (by (with_reducible repeat first | apply bkN | apply bkD | apply bkA); exact BK464.out) hb); replace BK469 := Az.mk (bkB (g := gb469) (o := .cells #[.int .i64 t465, .int .i64 t466] 24 (0, 0)) (by (with_reducible repeat first | apply bkN | apply bkD | apply bkA); exact BK469.out) hb); replace HB := Az.mk (bwT bw_33 hb); (try clear hb); (try clear ho0); obtain ⟨Ao26, co26, eo26⟩ := Kd.N_slice HO476.out; subst eo26) | ((with_reducible refine gtC (f := 30) rfl ?_); refine goesL_ (some 53) rfl rfl Try.func30 (by kernel_rfl) rfl #[.slice Ao26 t474.length co26, .slice A1 l1.length c1] rfl ln_33 ?_; (with_reducible refine (spec_PlainCurve.calls kj19 _ _ t474 _ _ l1 t477 t478 _ ?side1 ?side2 ?side3 ?side4 A24.out).mono ?_); (case side1 => repeat (first | exact (Kd.N_reads' HO476.out).2.2 | (with_reducible refine Kd.C_alloc ?_ _) | (with_reducible refine Kd.C_drewN ?_ _) | (with_reducible refine Kd.C_drew ?_))); (case side2 => exact (Kd.N_reads' HO476.out).2.1); (case side3 => repeat (first | exact (Kd.C_below HR1.out HB.out) | (with_reducible refine Kd.C_alloc ?_ _) | (with_reducible refine Kd.C_drewN ?_ _) | (with_reducible refine Kd.C_drew ?_))); (case side4 => exact HC1.out); rintro e w27 ⟨v479, rfl, ho0, hb⟩; refine ⟨_, rfl, ?_⟩; replace HO476 := Az.mk (Kd.N_elder' (by (with_reducible repeat (first | apply Kd.N_alloc | apply Kd.N_drewN | apply Kd.N_drew)); exact HO476.out) (Kd.R_base ho0) hb); have HO480 := Az.mk (Kd.R_lower ho0 (bwZ bw_33)); replace BK464 := Az.mk (bkB (g := gb464) (o := .cells #[.int .i64 t460, .int .i64 t461] 24 (0, 0)) (by (with_reducible repeat first | apply bkN | apply bkD | apply bkA); exact BK464.out) hb); replace BK469 := Az.mk (bkB (g := gb469) (o := .cells #[.int .i64 t465, .int .i64 t466] 24 (0, 0)) (by (with_reducible repeat first | apply bkN | apply bkD | apply bkA); exact BK469.out) hb); replace HB := Az.mk (bwT bw_33 hb); (try clear hb); (try clear ho0)))
      go_ret2
      exact ⟨_, by first | rfl | (simp [eWn, eWs] <;> rfl) | (simp [*, eWn, eWs] <;> rfl), by (with_reducible repeat (first | apply Kd.R_alloc | apply Kd.R_drewN | apply Kd.R_drew)); exact HO480.out, bw_33⟩
     replace c22 := Bool.eq_false_iff.mpr c22
     subst c22
     rw [if_neg (show ¬ (false = true) by decide)] at H
     replace H := be.mp H
     obtain ⟨⟨t481, t482, t483⟩, A280, H⟩ := H
     try dsimp only at H
     have A28 := Az.mk A280
     clear A280
     by_cases c29 : t483 = true
     rotate_left
     ·replace c29 := Bool.eq_false_iff.mpr c29
      subst c29
      rw [if_neg (show ¬ (false = true) by decide)] at H
      obtain ⟨y492, hy492⟩ : ∃ y_ : List Int, y_ = (([] : List Int)) := ⟨_, rfl⟩
      replace H : (some (y492, false)) = some (r1, r2) := by first | (rw [hy492]; with_reducible exact H) | (have H2_ := (Option.bind_some _ _).symm.trans H; rw [hy492]; with_reducible exact H2_) | (have H2_ := (Option.bind_some _ _).symm.trans H; with_reducible exact H2_) | with_reducible exact H | (rw [hy492]; exact H) | exact H
      have Ny492 := Az.mk hy492
      clear hy492
      simp only [Option.some.injEq, Prod.mk.injEq] at H
      obtain ⟨rfl, rfl⟩ := H
      have hnb51 := NB464_469.out
      have hnc51 := NB469_464.out
      have hcz52_0 : wc.cell? ⟨gb464, 0, none⟩ = some (.int .i64 t460) := (bkC BK464.out 0).trans rfl
      have hcz52_1 : wc.cell? ⟨gb464, 1, none⟩ = some (.int .i64 t461) := (bkC BK464.out 1).trans rfl
      have hfz52_0 := bkF BK464.out 0
      have hfz52_1 := bkF BK464.out 1
      have hcz53_0 : wc.cell? ⟨gb469, 0, none⟩ = some (.int .i64 t465) := (bkC BK469.out 0).trans rfl
      have hcz53_1 : wc.cell? ⟨gb469, 1, none⟩ = some (.int .i64 t466) := (bkC BK469.out 1).trans rfl
      have hfz53_0 := bkF BK469.out 0
      have hfz53_1 := bkF BK469.out 1
      go_wp2_with (first | ((with_reducible refine gtC (f := 50) rfl ?_); refine goesL_ (some 64) rfl rfl Try.func50 (by kernel_rfl) rfl #[.agg #[.int .i64 t460, .int .i64 t461], .agg #[.int .i64 t465, .int .i64 t466], .int .i64 (wrap64 (a2 * t462))] rfl ln_33 ?_; (with_reducible refine (spec_TwistSlope.calls kj19 t460 t461 t465 t466 (wrap64 (a2 * t462)) t481 t482 false _ A28.out).mono ?_); rintro e w54 ⟨rfl, hb⟩; refine ⟨_, rfl, ?_⟩; replace BK464 := Az.mk (bkB (g := gb464) (o := .cells #[.int .i64 t460, .int .i64 t461] 24 (0, 0)) (by (with_reducible repeat first | apply bkN | apply bkD | apply bkA); exact BK464.out) hb); replace BK469 := Az.mk (bkB (g := gb469) (o := .cells #[.int .i64 t465, .int .i64 t466] 24 (0, 0)) (by (with_reducible repeat first | apply bkN | apply bkD | apply bkA); exact BK469.out) hb); replace HB := Az.mk (bwT bw_33 hb); (try clear hb)) | ((with_reducible refine gtD (N := 16) rfl ?_); refine bxE ?hg (N := 16) ?hd (cs := #[.int .i64 0, .int .i64 0]) (t := 24) ?hr ?_; (case hd => rfl); (case hg => rfl); (case hr => first | (go_simp; done) | (go_simp; rfl)); intro gb484 hg w55 hbox hb; have BK484 := Az.mk (hbox); have GW484 := Az.mk ((by rw [hg]; exact (bwZ bw_33) : w.heap.size ≤ gb484)); have GE484 := Az.mk ((by rw [hg]; exact (bwZ bw_33) : w.heap.size ≤ gb484)); replace HB := Az.mk (bwT bw_33 hb); have NB464_484 := Az.mk ((by rw [hg]; exact Nat.ne_of_lt (blk_lt (g := gb464) (o := .cells #[.int .i64 t460, .int .i64 t461] 24 (0, 0)) (by (with_reducible repeat first | apply bkN | apply bkD | apply bkA); exact BK464.out)) : gb464 ≠ gb484)); have NB484_464 := Az.mk ((by rw [hg]; exact Nat.ne_of_gt (blk_lt (g := gb464) (o := .cells #[.int .i64 t460, .int .i64 t461] 24 (0, 0)) (by (with_reducible repeat first | apply bkN | apply bkD | apply bkA); exact BK464.out)) : gb484 ≠ gb464)); replace BK464 := Az.mk (bkB (g := gb464) (o := .cells #[.int .i64 t460, .int .i64 t461] 24 (0, 0)) (by (with_reducible repeat first | apply bkN | apply bkD | apply bkA); exact BK464.out) hb); have NB469_484 := Az.mk ((by rw [hg]; exact Nat.ne_of_lt (blk_lt (g := gb469) (o := .cells #[.int .i64 t465, .int .i64 t466] 24 (0, 0)) (by (with_reducible repeat first | apply bkN | apply bkD | apply bkA); exact BK469.out)) : gb469 ≠ gb484)); have NB484_469 := Az.mk ((by rw [hg]; exact Nat.ne_of_gt (blk_lt (g := gb469) (o := .cells #[.int .i64 t465, .int .i64 t466] 24 (0, 0)) (by (with_reducible repeat first | apply bkN | apply bkD | apply bkA); exact BK469.out)) : gb484 ≠ gb469)); replace BK469 := Az.mk (bkB (g := gb469) (o := .cells #[.int .i64 t465, .int .i64 t466] 24 (0, 0)) (by (with_reducible repeat first | apply bkN | apply bkD | apply bkA); exact BK469.out) hb); clear hb hbox hg; have hnb56 := NB484_464.out; have hnc56 := NB464_484.out; have hnb57 := NB484_469.out; have hnc57 := NB469_484.out; have hcz58_0 : w55.cell? ⟨gb484, 0, none⟩ = some (.int .i64 0) := (bkC BK484.out 0).trans rfl; have hcz58_1 : w55.cell? ⟨gb484, 1, none⟩ = some (.int .i64 0) := (bkC BK484.out 1).trans rfl; have hfz58_0 := bkF BK484.out 0; have hfz58_1 := bkF BK484.out 1) | ((with_reducible refine gtD (N := 73) rfl ?_); refine Kd.R_lit (Kd.int .i64) _ 3 ?hg (N := 73) ?hd (xs := ([] : List Int)) (inner := []) (ok := fun _ => True) (okp := fun _ => True) ?hr ?hp (fun _ hk => hk) trivial (Below.refl _ _) (Nat.le_refl _) (by simp) ?_; (case hd => rfl); (case hg => rfl); (case hr => first | (go_simp; done) | (go_simp; rfl)); (case hp => exact (Reps.none _ _)); intro v493 w59 ho60 hb hg_ hnew_; clear hg_ hnew_; (first | rw [← Ny492.out] at ho60 | (simp only [Int.reduceToNat] at ho60; rw [← Ny492.out] at ho60)); have HO494 := Az.mk (Kd.R_lower ho60 (bwZ bw_33)); replace BK464 := Az.mk (bkB (g := gb464) (o := .cells #[.int .i64 t460, .int .i64 t461] 24 (0, 0)) (by (with_reducible repeat first | apply bkN | apply bkD | apply bkA); refine bkf ?_ NB464_484.out _; (with_reducible repeat first | apply bkN | apply bkD | apply bkA); refine bkf ?_ NB464_484.out _; (with_reducible repeat first | apply bkN | apply bkD | apply bkA); exact BK464.out) hb); replace BK469 := Az.mk (bkB (g := gb469) (o := .cells #[.int .i64 t465, .int .i64 t466] 24 (0, 0)) (by (with_reducible repeat first | apply bkN | apply bkD | apply bkA); refine bkf ?_ NB469_484.out _; (with_reducible repeat first | apply bkN | apply bkD | apply bkA); refine bkf ?_ NB469_484.out _; (with_reducible repeat first | apply bkN | apply bkD | apply bkA); exact BK469.out) hb); replace BK484 := Az.mk (bkB (g := gb484) (o := .cells #[.int .i64 t481, .int .i64 t482] 24 (0, 0)) (by (with_reducible repeat first | apply bkN | apply bkD | apply bkA); refine bkp (cs := #[.int .i64 t481, .int .i64 0]) ?_ 1 _ rfl; (with_reducible repeat first | apply bkN | apply bkD | apply bkA); refine bkp (cs := #[.int .i64 0, .int .i64 0]) ?_ 0 _ rfl; (with_reducible repeat first | apply bkN | apply bkD | apply bkA); exact BK484.out) hb); replace HB := Az.mk (bwT bw_33 hb); clear hb ho60))
      go_ret2
      exact ⟨_, by first | rfl | (simp [eWn, eWs] <;> rfl) | (simp [*, eWn, eWs] <;> rfl), by (with_reducible repeat (first | apply Kd.R_alloc | apply Kd.R_drewN | apply Kd.R_drew)); exact HO494.out, bw_33⟩
     subst c29
     rw [if_pos rfl] at H
     by_cases c30 : t467 > 20
     ·rw [if_pos c30] at H
      have c30b0 : decide (20 < t467) = true := decide_eq_true c30
      clear c30
      obtain ⟨y485, hy485⟩ : ∃ y_ : List Int, y_ = (([] : List Int)) := ⟨_, rfl⟩
      replace H : (some (y485, false)) = some (r1, r2) := by first | (rw [hy485]; with_reducible exact H) | (have H2_ := (Option.bind_some _ _).symm.trans H; rw [hy485]; with_reducible exact H2_) | (have H2_ := (Option.bind_some _ _).symm.trans H; with_reducible exact H2_) | with_reducible exact H | (rw [hy485]; exact H) | exact H
      have Ny485 := Az.mk hy485
      clear hy485
      simp only [Option.some.injEq, Prod.mk.injEq] at H
      obtain ⟨rfl, rfl⟩ := H
      have hnb31 := NB464_469.out
      have hnc31 := NB469_464.out
      have hcz32_0 : wc.cell? ⟨gb464, 0, none⟩ = some (.int .i64 t460) := (bkC BK464.out 0).trans rfl
      have hcz32_1 : wc.cell? ⟨gb464, 1, none⟩ = some (.int .i64 t461) := (bkC BK464.out 1).trans rfl
      have hfz32_0 := bkF BK464.out 0
      have hfz32_1 := bkF BK464.out 1
      have hcz33_0 : wc.cell? ⟨gb469, 0, none⟩ = some (.int .i64 t465) := (bkC BK469.out 0).trans rfl
      have hcz33_1 : wc.cell? ⟨gb469, 1, none⟩ = some (.int .i64 t466) := (bkC BK469.out 1).trans rfl
      have hfz33_0 := bkF BK469.out 0
      have hfz33_1 := bkF BK469.out 1
      go_wp2_with (first | ((with_reducible refine gtC (f := 50) rfl ?_); refine goesL_ (some 64) rfl rfl Try.func50 (by kernel_rfl) rfl #[.agg #[.int .i64 t460, .int .i64 t461], .agg #[.int .i64 t465, .int .i64 t466], .int .i64 (wrap64 (a2 * t462))] rfl ln_33 ?_; (with_reducible refine (spec_TwistSlope.calls kj19 t460 t461 t465 t466 (wrap64 (a2 * t462)) t481 t482 true _ A28.out).mono ?_); rintro e w34 ⟨rfl, hb⟩; refine ⟨_, rfl, ?_⟩; replace BK464 := Az.mk (bkB (g := gb464) (o := .cells #[.int .i64 t460, .int .i64 t461] 24 (0, 0)) (by (with_reducible repeat first | apply bkN | apply bkD | apply bkA); exact BK464.out) hb); replace BK469 := Az.mk (bkB (g := gb469) (o := .cells #[.int .i64 t465, .int .i64 t466] 24 (0, 0)) (by (with_reducible repeat first | apply bkN | apply bkD | apply bkA); exact BK469.out) hb); replace HB := Az.mk (bwT bw_33 hb); (try clear hb)) | ((with_reducible refine gtD (N := 16) rfl ?_); refine bxE ?hg (N := 16) ?hd (cs := #[.int .i64 0, .int .i64 0]) (t := 24) ?hr ?_; (case hd => rfl); (case hg => rfl); (case hr => first | (go_simp; done) | (go_simp; rfl)); intro gb484 hg w35 hbox hb; have BK484 := Az.mk (hbox); have GW484 := Az.mk ((by rw [hg]; exact (bwZ bw_33) : w.heap.size ≤ gb484)); have GE484 := Az.mk ((by rw [hg]; exact (bwZ bw_33) : w.heap.size ≤ gb484)); replace HB := Az.mk (bwT bw_33 hb); have NB464_484 := Az.mk ((by rw [hg]; exact Nat.ne_of_lt (blk_lt (g := gb464) (o := .cells #[.int .i64 t460, .int .i64 t461] 24 (0, 0)) (by (with_reducible repeat first | apply bkN | apply bkD | apply bkA); exact BK464.out)) : gb464 ≠ gb484)); have NB484_464 := Az.mk ((by rw [hg]; exact Nat.ne_of_gt (blk_lt (g := gb464) (o := .cells #[.int .i64 t460, .int .i64 t461] 24 (0, 0)) (by (with_reducible repeat first | apply bkN | apply bkD | apply bkA); exact BK464.out)) : gb484 ≠ gb464)); replace BK464 := Az.mk (bkB (g := gb464) (o := .cells #[.int .i64 t460, .int .i64 t461] 24 (0, 0)) (by (with_reducible repeat first | apply bkN | apply bkD | apply bkA); exact BK464.out) hb); have NB469_484 := Az.mk ((by rw [hg]; exact Nat.ne_of_lt (blk_lt (g := gb469) (o := .cells #[.int .i64 t465, .int .i64 t466] 24 (0, 0)) (by (with_reducible repeat first | apply bkN | apply bkD | apply bkA); exact BK469.out)) : gb469 ≠ gb484)); have NB484_469 := Az.mk ((by rw [hg]; exact Nat.ne_of_gt (blk_lt (g := gb469) (o := .cells #[.int .i64 t465, .int .i64 t466] 24 (0, 0)) (by (with_reducible repeat first | apply bkN | apply bkD | apply bkA); exact BK469.out)) : gb484 ≠ gb469)); replace BK469 := Az.mk (bkB (g := gb469) (o := .cells #[.int .i64 t465, .int .i64 t466] 24 (0, 0)) (by (with_reducible repeat first | apply bkN | apply bkD | apply bkA); exact BK469.out) hb); clear hb hbox hg; have hnb36 := NB484_464.out; have hnc36 := NB464_484.out; have hnb37 := NB484_469.out; have hnc37 := NB469_484.out; have hcz38_0 : w35.cell? ⟨gb484, 0, none⟩ = some (.int .i64 0) := (bkC BK484.out 0).trans rfl; have hcz38_1 : w35.cell? ⟨gb484, 1, none⟩ = some (.int .i64 0) := (bkC BK484.out 1).trans rfl; have hfz38_0 := bkF BK484.out 0; have hfz38_1 := bkF BK484.out 1) | ((with_reducible refine gtD (N := 73) rfl ?_); refine Kd.R_lit (Kd.int .i64) _ 3 ?hg (N := 73) ?hd (xs := ([] : List Int)) (inner := []) (ok := fun _ => True) (okp := fun _ => True) ?hr ?hp (fun _ hk => hk) trivial (Below.refl _ _) (Nat.le_refl _) (by simp) ?_; (case hd => rfl); (case hg => rfl); (case hr => first | (go_simp; done) | (go_simp; rfl)); (case hp => exact (Reps.none _ _)); intro v486 w39 ho40 hb hg_ hnew_; clear hg_ hnew_; (first | rw [← Ny485.out] at ho40 | (simp only [Int.reduceToNat] at ho40; rw [← Ny485.out] at ho40)); have HO487 := Az.mk (Kd.R_lower ho40 (bwZ bw_33)); replace BK464 := Az.mk (bkB (g := gb464) (o := .cells #[.int .i64 t460, .int .i64 t461] 24 (0, 0)) (by (with_reducible repeat first | apply bkN | apply bkD | apply bkA); refine bkf ?_ NB464_484.out _; (with_reducible repeat first | apply bkN | apply bkD | apply bkA); refine bkf ?_ NB464_484.out _; (with_reducible repeat first | apply bkN | apply bkD | apply bkA); exact BK464.out) hb); replace BK469 := Az.mk (bkB (g := gb469) (o := .cells #[.int .i64 t465, .int .i64 t466] 24 (0, 0)) (by (with_reducible repeat first | apply bkN | apply bkD | apply bkA); refine bkf ?_ NB469_484.out _; (with_reducible repeat first | apply bkN | apply bkD | apply bkA); refine bkf ?_ NB469_484.out _; (with_reducible repeat first | apply bkN | apply bkD | apply bkA); exact BK469.out) hb); replace BK484 := Az.mk (bkB (g := gb484) (o := .cells #[.int .i64 t481, .int .i64 t482] 24 (0, 0)) (by (with_reducible repeat first | apply bkN | apply bkD | apply bkA); refine bkp (cs := #[.int .i64 t481, .int .i64 0]) ?_ 1 _ rfl; (with_reducible repeat first | apply bkN | apply bkD | apply bkA); refine bkp (cs := #[.int .i64 0, .int .i64 0]) ?_ 0 _ rfl; (with_reducible repeat first | apply bkN | apply bkD | apply bkA); exact BK484.out) hb); replace HB := Az.mk (bwT bw_33 hb); clear hb ho40))
      go_ret2
      exact ⟨_, by first | rfl | (simp [eWn, eWs] <;> rfl) | (simp [*, eWn, eWs] <;> rfl), by (with_reducible repeat (first | apply Kd.R_alloc | apply Kd.R_drewN | apply Kd.R_drew)); exact HO487.out, bw_33⟩
     rw [if_neg c30] at H
     have c30b0 : decide (20 < t467) = false := decide_eq_false c30
     clear c30
     replace H := be.mp H
     obtain ⟨⟨t488, t491⟩, A410, H⟩ := H
     try dsimp only at H
     have A41 := Az.mk A410
     clear A410
     simp only [Option.some.injEq, Prod.mk.injEq] at H
     obtain ⟨rfl, rfl⟩ := H
     have hnb42 := NB464_469.out
     have hnc42 := NB469_464.out
     have hcz43_0 : wc.cell? ⟨gb464, 0, none⟩ = some (.int .i64 t460) := (bkC BK464.out 0).trans rfl
     have hcz43_1 : wc.cell? ⟨gb464, 1, none⟩ = some (.int .i64 t461) := (bkC BK464.out 1).trans rfl
     have hfz43_0 := bkF BK464.out 0
     have hfz43_1 := bkF BK464.out 1
     have hcz44_0 : wc.cell? ⟨gb469, 0, none⟩ = some (.int .i64 t465) := (bkC BK469.out 0).trans rfl
     have hcz44_1 : wc.cell? ⟨gb469, 1, none⟩ = some (.int .i64 t466) := (bkC BK469.out 1).trans rfl
     have hfz44_0 := bkF BK469.out 0
     have hfz44_1 := bkF BK469.out 1
     go_wp2_with (first | ((with_reducible refine gtC (f := 50) rfl ?_); refine goesL_ (some 64) rfl rfl Try.func50 (by kernel_rfl) rfl #[.agg #[.int .i64 t460, .int .i64 t461], .agg #[.int .i64 t465, .int .i64 t466], .int .i64 (wrap64 (a2 * t462))] rfl ln_33 ?_; (with_reducible refine (spec_TwistSlope.calls kj19 t460 t461 t465 t466 (wrap64 (a2 * t462)) t481 t482 true _ A28.out).mono ?_); rintro e w45 ⟨rfl, hb⟩; refine ⟨_, rfl, ?_⟩; replace BK464 := Az.mk (bkB (g := gb464) (o := .cells #[.int .i64 t460, .int .i64 t461] 24 (0, 0)) (by (with_reducible repeat first | apply bkN | apply bkD | apply bkA); exact BK464.out) hb); replace BK469 := Az.mk (bkB (g := gb469) (o := .cells #[.int .i64 t465, .int .i64 t466] 24 (0, 0)) (by (with_reducible repeat first | apply bkN | apply bkD | apply bkA); exact BK469.out) hb); replace HB := Az.mk (bwT bw_33 hb); (try clear hb)) | ((with_reducible refine gtD (N := 16) rfl ?_); refine bxE ?hg (N := 16) ?hd (cs := #[.int .i64 0, .int .i64 0]) (t := 24) ?hr ?_; (case hd => rfl); (case hg => rfl); (case hr => first | (go_simp; done) | (go_simp; rfl)); intro gb484 hg w46 hbox hb; have BK484 := Az.mk (hbox); have GW484 := Az.mk ((by rw [hg]; exact (bwZ bw_33) : w.heap.size ≤ gb484)); have GE484 := Az.mk ((by rw [hg]; exact (bwZ bw_33) : w.heap.size ≤ gb484)); replace HB := Az.mk (bwT bw_33 hb); have NB464_484 := Az.mk ((by rw [hg]; exact Nat.ne_of_lt (blk_lt (g := gb464) (o := .cells #[.int .i64 t460, .int .i64 t461] 24 (0, 0)) (by (with_reducible repeat first | apply bkN | apply bkD | apply bkA); exact BK464.out)) : gb464 ≠ gb484)); have NB484_464 := Az.mk ((by rw [hg]; exact Nat.ne_of_gt (blk_lt (g := gb464) (o := .cells #[.int .i64 t460, .int .i64 t461] 24 (0, 0)) (by (with_reducible repeat first | apply bkN | apply bkD | apply bkA); exact BK464.out)) : gb484 ≠ gb464)); replace BK464 := Az.mk (bkB (g := gb464) (o := .cells #[.int .i64 t460, .int .i64 t461] 24 (0, 0)) (by (with_reducible repeat first | apply bkN | apply bkD | apply bkA); exact BK464.out) hb); have NB469_484 := Az.mk ((by rw [hg]; exact Nat.ne_of_lt (blk_lt (g := gb469) (o := .cells #[.int .i64 t465, .int .i64 t466] 24 (0, 0)) (by (with_reducible repeat first | apply bkN | apply bkD | apply bkA); exact BK469.out)) : gb469 ≠ gb484)); have NB484_469 := Az.mk ((by rw [hg]; exact Nat.ne_of_gt (blk_lt (g := gb469) (o := .cells #[.int .i64 t465, .int .i64 t466] 24 (0, 0)) (by (with_reducible repeat first | apply bkN | apply bkD | apply bkA); exact BK469.out)) : gb484 ≠ gb469)); replace BK469 := Az.mk (bkB (g := gb469) (o := .cells #[.int .i64 t465, .int .i64 t466] 24 (0, 0)) (by (with_reducible repeat first | apply bkN | apply bkD | apply bkA); exact BK469.out) hb); clear hb hbox hg; have hnb47 := NB484_464.out; have hnc47 := NB464_484.out; have hnb48 := NB484_469.out; have hnc48 := NB469_484.out; have hcz49_0 : w46.cell? ⟨gb484, 0, none⟩ = some (.int .i64 0) := (bkC BK484.out 0).trans rfl; have hcz49_1 : w46.cell? ⟨gb484, 1, none⟩ = some (.int .i64 0) := (bkC BK484.out 1).trans rfl; have hfz49_0 := bkF BK484.out 0; have hfz49_1 := bkF BK484.out 1) | ((with_reducible refine gtC (f := 51) rfl ?_); refine goesL_ (some 77) rfl rfl Try.func51 (by kernel_rfl) rfl #[.agg #[.int .i64 t481, .int .i64 t482], .int .i64 t467] rfl ln_33 ?_; (with_reducible refine (spec_CurveOfSlope.calls kj19 t481 t482 t467 t488 t491 _ A41.out).mono ?_); rintro e w50 ⟨v489, rfl, ho0, hb⟩; refine ⟨_, rfl, ?_⟩; have HO490 := Az.mk (Kd.R_lower ho0 (bwZ bw_33)); replace BK464 := Az.mk (bkB (g := gb464) (o := .cells #[.int .i64 t460, .int .i64 t461] 24 (0, 0)) (by (with_reducible repeat first | apply bkN | apply bkD | apply bkA); refine bkf ?_ NB464_484.out _; (with_reducible repeat first | apply bkN | apply bkD | apply bkA); refine bkf ?_ NB464_484.out _; (with_reducible repeat first | apply bkN | apply bkD | apply bkA); exact BK464.out) hb); replace BK469 := Az.mk (bkB (g := gb469) (o := .cells #[.int .i64 t465, .int .i64 t466] 24 (0, 0)) (by (with_reducible repeat first | apply bkN | apply bkD | apply bkA); refine bkf ?_ NB469_484.out _; (with_reducible repeat first | apply bkN | apply bkD | apply bkA); refine bkf ?_ NB469_484.out _; (with_reducible repeat first | apply bkN | apply bkD | apply bkA); exact BK469.out) hb); replace BK484 := Az.mk (bkB (g := gb484) (o := .cells #[.int .i64 t481, .int .i64 t482] 24 (0, 0)) (by (with_reducible repeat first | apply bkN | apply bkD | apply bkA); refine bkp (cs := #[.int .i64 t481, .int .i64 0]) ?_ 1 _ rfl; (with_reducible repeat first | apply bkN | apply bkD | apply bkA); refine bkp (cs := #[.int .i64 0, .int .i64 0]) ?_ 0 _ rfl; (with_reducible repeat first | apply bkN | apply bkD | apply bkA); exact BK484.out) hb); replace HB := Az.mk (bwT bw_33 hb); (try clear hb); (try clear ho0)))
     go_ret2
     exact ⟨_, by first | rfl | (simp [eWn, eWs] <;> rfl) | (simp [*, eWn, eWs] <;> rfl), by (with_reducible repeat (first | apply Kd.R_alloc | apply Kd.R_drewN | apply Kd.R_drew)); exact HO490.out, bw_33⟩

/-! ### impl_IsSlope: function 88 -/
def impl_IsSlope.f (k : Nat) (a0_0 : Int) (a0_1 : Int) : Option (Bool) := (impl_within.f a0_0 (-1000) 1000).bind fun t496 => (if t496 = true then ((impl_within.f a0_1 0 1000).bind fun t497 => (if t497 = true then ((impl_gcd.f k a0_0 a0_1).bind fun t498 => (if t498 = 1 then (if a0_1 > 0 then (some true) else (some (a0_0 == 1))) else (some false))) else (some false))) else (some false))
theorem impl_IsSlope.mono : ∀ a0 a1 k, LeO (impl_IsSlope.f k a0 a1) (impl_IsSlope.f (k + 1) a0 a1) := by
 intro a0 a1 k
 unfold impl_IsSlope.f
 repeat' first
   | (with_reducible exact impl_gcd.mono _ _ _)
   | (with_reducible exact LeO.refl _)
   | (with_reducible exact LeO.none _)
   | (with_reducible refine LeO.ite ?_ ?_)
   | (with_reducible refine LeO.bind ?_ (fun _ => ?_))
   | exact impl_gcd.mono _ _ _
   | exact LeO.none _
   | refine LeO.ite ?_ ?_
   | refine LeO.bind ?_ (fun _ => ?_)
set_option maxHeartbeats 8000000 in
set_option maxRecDepth 100000 in
theorem impl_IsSlope.calls (k : Nat) (a0_0 : Int) (a0_1 : Int) (r : Bool) (w : World) (h : impl_IsSlope.f k a0_0 a0_1 = some r) :
  Calls Try.prog 88 #[.agg #[.int .i64 a0_0, .int .i64 a0_1]] w fun e w' => e = .returned (.bool r) ∧ Below w.heap.size w w' := by
 have hu24 := Try.underlying24
 have HB := Az.mk (Below.refl w.heap.size w)
 have H : ((impl_within.f a0_0 (-1000) 1000).bind fun t496 => (if t496 = true then ((impl_within.f a0_1 0 1000).bind fun t497 => (if t497 = true then ((impl_gcd.f k a0_0 a0_1).bind fun t498 => (if t498 = 1 then (if a0_1 > 0 then (some true) else (some (a0_0 == 1))) else (some false))) else (some false))) else (some false))) = some r := h
 clear h
 replace H := be.mp H
 obtain ⟨t496, A20, H⟩ := H
 try dsimp only at H
 have A2 := Az.mk A20
 clear A20
 by_cases c3 : t496 = true
 rotate_left
 ·replace c3 := Bool.eq_false_iff.mpr c3
  subst c3
  rw [if_neg (show ¬ (false = true) by decide)] at H
  obtain rfl := Option.some.inj H
  go_enter Try.func88, Try.ntmps88
  go_wp2_with (first | ((with_reducible refine gtD (N := 1) rfl ?_); refine bxE ?hg (N := 1) ?hd (cs := #[.int .i64 a0_0, .int .i64 a0_1]) (t := 24) ?hr ?_; (case hd => rfl); (case hg => rfl); (case hr => first | (go_simp; done) | (go_simp; rfl)); intro gb495 hg w22 hbox hb; have BK495 := Az.mk (hbox); have GW495 := Az.mk ((by rw [hg]; exact (bwZ bw_33) : w.heap.size ≤ gb495)); have GE495 := Az.mk ((by rw [hg]; exact (bwZ bw_33) : w.heap.size ≤ gb495)); replace HB := Az.mk (bwT bw_33 hb); clear hb hbox hg; have hcz23_0 : w22.cell? ⟨gb495, 0, none⟩ = some (.int .i64 a0_0) := (bkC BK495.out 0).trans rfl; have hcz23_1 : w22.cell? ⟨gb495, 1, none⟩ = some (.int .i64 a0_1) := (bkC BK495.out 1).trans rfl; have hfz23_0 := bkF BK495.out 0; have hfz23_1 := bkF BK495.out 1) | ((with_reducible refine gtC (f := 52) rfl ?_); refine goesL_ (some 5) rfl rfl Try.func52 (by kernel_rfl) rfl #[.int .i64 a0_0, .int .i64 (-1000), .int .i64 1000] rfl ln_33 ?_; (with_reducible refine (impl_within.calls a0_0 (-1000) 1000 false _ A2.out).mono ?_); rintro e w' ⟨rfl, ⟨nd, rfl⟩⟩; refine ⟨_, rfl, ?_⟩))
  go_ret
  exact ⟨by first | rfl | (simp [eWn, eWs] <;> rfl) | (simp [*, eWn, eWs] <;> rfl), bw_33⟩
 subst c3
 rw [if_pos rfl] at H
 replace H := be.mp H
 obtain ⟨t497, A40, H⟩ := H
 try dsimp only at H
 have A4 := Az.mk A40
 clear A40
 by_cases c5 : t497 = true
 rotate_left
 ·replace c5 := Bool.eq_false_iff.mpr c5
  subst c5
  rw [if_neg (show ¬ (false = true) by decide)] at H
  obtain rfl := Option.some.inj H
  go_enter Try.func88, Try.ntmps88
  go_wp2_with (first | ((with_reducible refine gtD (N := 1) rfl ?_); refine bxE ?hg (N := 1) ?hd (cs := #[.int .i64 a0_0, .int .i64 a0_1]) (t := 24) ?hr ?_; (case hd => rfl); (case hg => rfl); (case hr => first | (go_simp; done) | (go_simp; rfl)); intro gb495 hg w20 hbox hb; have BK495 := Az.mk (hbox); have GW495 := Az.mk ((by rw [hg]; exact (bwZ bw_33) : w.heap.size ≤ gb495)); have GE495 := Az.mk ((by rw [hg]; exact (bwZ bw_33) : w.heap.size ≤ gb495)); replace HB := Az.mk (bwT bw_33 hb); clear hb hbox hg; have hcz21_0 : w20.cell? ⟨gb495, 0, none⟩ = some (.int .i64 a0_0) := (bkC BK495.out 0).trans rfl; have hcz21_1 : w20.cell? ⟨gb495, 1, none⟩ = some (.int .i64 a0_1) := (bkC BK495.out 1).trans rfl; have hfz21_0 := bkF BK495.out 0; have hfz21_1 := bkF BK495.out 1) | ((with_reducible refine gtC (f := 52) rfl ?_); refine goesL_ (some 5) rfl rfl Try.func52 (by kernel_rfl) rfl #[.int .i64 a0_0, .int .i64 (-1000), .int .i64 1000] rfl ln_33 ?_; (with_reducible refine (impl_within.calls a0_0 (-1000) 1000 true _ A2.out).mono ?_); rintro e w' ⟨rfl, ⟨nd, rfl⟩⟩; refine ⟨_, rfl, ?_⟩) | (go_at_call 52; (with_reducible refine (impl_within.calls a0_1 0 1000 false _ A4.out).mono ?_); rintro e w' ⟨rfl, ⟨nd, rfl⟩⟩))
  go_ret
  exact ⟨by first | rfl | (simp [eWn, eWs] <;> rfl) | (simp [*, eWn, eWs] <;> rfl), bw_33⟩
 subst c5
 rw [if_pos rfl] at H
 replace H := be.mp H
 obtain ⟨t498, A60, H⟩ := H
 try dsimp only at H
 have A6 := Az.mk A60
 clear A60
 by_cases c7 : t498 = 1
 rotate_left
 ·rw [if_neg c7] at H
  have c7b0 : (t498 == 1) = false := beq_eq_false_iff_ne.mpr c7
  have c7b1 : (t498 != 1) = true := bne_iff_ne.mpr c7
  obtain rfl := Option.some.inj H
  go_enter Try.func88, Try.ntmps88
  go_wp2_with (first | ((with_reducible refine gtD (N := 1) rfl ?_); refine bxE ?hg (N := 1) ?hd (cs := #[.int .i64 a0_0, .int .i64 a0_1]) (t := 24) ?hr ?_; (case hd => rfl); (case hg => rfl); (case hr => first | (go_simp; done) | (go_simp; rfl)); intro gb495 hg w17 hbox hb; have BK495 := Az.mk (hbox); have GW495 := Az.mk ((by rw [hg]; exact (bwZ bw_33) : w.heap.size ≤ gb495)); have GE495 := Az.mk ((by rw [hg]; exact (bwZ bw_33) : w.heap.size ≤ gb495)); replace HB := Az.mk (bwT bw_33 hb); clear hb hbox hg; have hcz18_0 : w17.cell? ⟨gb495, 0, none⟩ = some (.int .i64 a0_0) := (bkC BK495.out 0).trans rfl; have hcz18_1 : w17.cell? ⟨gb495, 1, none⟩ = some (.int .i64 a0_1) := (bkC BK495.out 1).trans rfl; have hfz18_0 := bkF BK495.out 0; have hfz18_1 := bkF BK495.out 1) | ((with_reducible refine gtC (f := 52) rfl ?_); refine goesL_ (some 5) rfl rfl Try.func52 (by kernel_rfl) rfl #[.int .i64 a0_0, .int .i64 (-1000), .int .i64 1000] rfl ln_33 ?_; (with_reducible refine (impl_within.calls a0_0 (-1000) 1000 true _ A2.out).mono ?_); rintro e w' ⟨rfl, ⟨nd, rfl⟩⟩; refine ⟨_, rfl, ?_⟩) | (go_at_call 52; (with_reducible refine (impl_within.calls a0_1 0 1000 true _ A4.out).mono ?_); rintro e w' ⟨rfl, ⟨nd, rfl⟩⟩) | (go_at_call 41; (with_reducible refine (impl_gcd.calls k a0_0 a0_1 t498 _ A6.out).mono ?_); rintro e w19 ⟨rfl, hb⟩; replace BK495 := Az.mk (bkB (g := gb495) (o := .cells #[.int .i64 a0_0, .int .i64 a0_1] 24 (0, 0)) (by (with_reducible repeat first | apply bkN | apply bkD | apply bkA); exact BK495.out) hb); replace HB := Az.mk (bwT bw_33 hb); (try clear hb)))
  go_ret
  exact ⟨by first | rfl | (simp [eWn, eWs] <;> rfl) | (simp [*, eWn, eWs] <;> rfl), bw_33⟩
 rw [if_pos c7] at H
 have c7b0 : (t498 == 1) = true := beq_iff_eq.mpr c7
 have c7b1 : (t498 != 1) = false := bne_eq_false_iff_eq.mpr c7
 clear c7
 by_cases c8 : a0_1 > 0
 ·rw [if_pos c8] at H
  have c8b0 : decide (0 < a0_1) = true := decide_eq_true c8
  clear c8
  obtain rfl := Option.some.inj H
  go_enter Try.func88, Try.ntmps88
  go_wp2_with (first | ((with_reducible refine gtD (N := 1) rfl ?_); refine bxE ?hg (N := 1) ?hd (cs := #[.int .i64 a0_0, .int .i64 a0_1]) (t := 24) ?hr ?_; (case hd => rfl); (case hg => rfl); (case hr => first | (go_simp; done) | (go_simp; rfl)); intro gb495 hg w9 hbox hb; have BK495 := Az.mk (hbox); have GW495 := Az.mk ((by rw [hg]; exact (bwZ bw_33) : w.heap.size ≤ gb495)); have GE495 := Az.mk ((by rw [hg]; exact (bwZ bw_33) : w.heap.size ≤ gb495)); replace HB := Az.mk (bwT bw_33 hb); clear hb hbox hg; have hcz10_0 : w9.cell? ⟨gb495, 0, none⟩ = some (.int .i64 a0_0) := (bkC BK495.out 0).trans rfl; have hcz10_1 : w9.cell? ⟨gb495, 1, none⟩ = some (.int .i64 a0_1) := (bkC BK495.out 1).trans rfl; have hfz10_0 := bkF BK495.out 0; have hfz10_1 := bkF BK495.out 1) | ((with_reducible refine gtC (f := 52) rfl ?_); refine goesL_ (some 5) rfl rfl Try.func52 (by kernel_rfl) rfl #[.int .i64 a0_0, .int .i64 (-1000), .int .i64 1000] rfl ln_33 ?_; (with_reducible refine (impl_within.calls a0_0 (-1000) 1000 true _ A2.out).mono ?_); rintro e w' ⟨rfl, ⟨nd, rfl⟩⟩; refine ⟨_, rfl, ?_⟩) | (go_at_call 52; (with_reducible refine (impl_within.calls a0_1 0 1000 true _ A4.out).mono ?_); rintro e w' ⟨rfl, ⟨nd, rfl⟩⟩) | (go_at_call 41; (with_reducible refine (impl_gcd.calls k a0_0 a0_1 t498 _ A6.out).mono ?_); rintro e w11 ⟨rfl, hb⟩; replace BK495 := Az.mk (bkB (g := gb495) (o := .cells #[.int .i64 a0_0, .int .i64 a0_1] 24 (0, 0)) (by (with_reducible repeat first | apply bkN | apply bkD | apply bkA); exact BK495.out) hb); replace HB := Az.mk (bwT bw_33 hb); (try clear hb); have hcz12_0 : w11.cell? ⟨gb495, 0, none⟩ = some (.int .i64 a0_0) := (bkC BK495.out 0).trans rfl; have hcz12_1 : w11.cell? ⟨gb495, 1, none⟩ = some (.int .i64 a0_1) := (bkC BK495.out 1).trans rfl; have hfz12_0 := bkF BK495.out 0; have hfz12_1 := bkF BK495.out 1))
  go_ret
  exact ⟨by first | rfl | (simp [eWn, eWs] <;> rfl) | (simp [*, eWn, eWs] <;> rfl), bw_33⟩
 rw [if_neg c8] at H
 have c8b0 : decide (0 < a0_1) = false := decide_eq_false c8
 clear c8
 obtain rfl := Option.some.inj H
 go_enter Try.func88, Try.ntmps88
 go_wp2_with (first | ((with_reducible refine gtD (N := 1) rfl ?_); refine bxE ?hg (N := 1) ?hd (cs := #[.int .i64 a0_0, .int .i64 a0_1]) (t := 24) ?hr ?_; (case hd => rfl); (case hg => rfl); (case hr => first | (go_simp; done) | (go_simp; rfl)); intro gb495 hg w13 hbox hb; have BK495 := Az.mk (hbox); have GW495 := Az.mk ((by rw [hg]; exact (bwZ bw_33) : w.heap.size ≤ gb495)); have GE495 := Az.mk ((by rw [hg]; exact (bwZ bw_33) : w.heap.size ≤ gb495)); replace HB := Az.mk (bwT bw_33 hb); clear hb hbox hg; have hcz14_0 : w13.cell? ⟨gb495, 0, none⟩ = some (.int .i64 a0_0) := (bkC BK495.out 0).trans rfl; have hcz14_1 : w13.cell? ⟨gb495, 1, none⟩ = some (.int .i64 a0_1) := (bkC BK495.out 1).trans rfl; have hfz14_0 := bkF BK495.out 0; have hfz14_1 := bkF BK495.out 1) | ((with_reducible refine gtC (f := 52) rfl ?_); refine goesL_ (some 5) rfl rfl Try.func52 (by kernel_rfl) rfl #[.int .i64 a0_0, .int .i64 (-1000), .int .i64 1000] rfl ln_33 ?_; (with_reducible refine (impl_within.calls a0_0 (-1000) 1000 true _ A2.out).mono ?_); rintro e w' ⟨rfl, ⟨nd, rfl⟩⟩; refine ⟨_, rfl, ?_⟩) | (go_at_call 52; (with_reducible refine (impl_within.calls a0_1 0 1000 true _ A4.out).mono ?_); rintro e w' ⟨rfl, ⟨nd, rfl⟩⟩) | (go_at_call 41; (with_reducible refine (impl_gcd.calls k a0_0 a0_1 t498 _ A6.out).mono ?_); rintro e w15 ⟨rfl, hb⟩; replace BK495 := Az.mk (bkB (g := gb495) (o := .cells #[.int .i64 a0_0, .int .i64 a0_1] 24 (0, 0)) (by (with_reducible repeat first | apply bkN | apply bkD | apply bkA); exact BK495.out) hb); replace HB := Az.mk (bwT bw_33 hb); (try clear hb); have hcz16_0 : w15.cell? ⟨gb495, 0, none⟩ = some (.int .i64 a0_0) := (bkC BK495.out 0).trans rfl; have hcz16_1 : w15.cell? ⟨gb495, 1, none⟩ = some (.int .i64 a0_1) := (bkC BK495.out 1).trans rfl; have hfz16_0 := bkF BK495.out 0; have hfz16_1 := bkF BK495.out 1))
 go_ret
 exact ⟨by first | rfl | (simp [eWn, eWs] <;> rfl) | (simp [*, eWn, eWs] <;> rfl), bw_33⟩

end Go.Proofs.Ytjmgbaphlhimhaa.P
