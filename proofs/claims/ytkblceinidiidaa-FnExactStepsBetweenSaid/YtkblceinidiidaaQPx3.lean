-- By this session's driver (wip/tools/mk.py) of the kit's print program, over several statements at once. Not trusted: Lean checks it.
import Derived.Test.YtkblceinidiidaaQPx0
import Derived.Test.YtkblceinidiidaaQPx2
namespace Go.Proofs.Ytkblceinidiidaa.P
open Go.RowKit Go.Proofs.YtkblceinidiidaaW.PrintWords Go.Proofs.YtkblceinidiidaaW.PrintLast Go.Proofs.YtkblceinidiidaaW.PrintMore
attribute [local go_sem] max2_int min2_int max_two min_two max_three min_three max_four min_four   -- for this text's walks alone
set_option linter.unusedVariables false
set_option linter.unusedSimpArgs false

/-! ### spec_SlopeDistance: function 5 -/
def spec_SlopeDistance.j0 : Nat → Bool → Int → Int → Int → Int → Option (Int)
 | 0, _, _, _, _, _ => none
 | k + 1, x16, x117000, x117001, x118000, x118001 => if x16 = true then (some (-1)) else ((spec_l14Bezout.f k x117000 x117001).bind fun bt120 => (if (wrap64 ((wrap64 (x117000 * x118001)) - (wrap64 (x117001 * x118000)))) < 0 then ((spec_l14Far.f k (wrap64 (-(wrap64 ((wrap64 (bt120.1 * x118000)) + (wrap64 (bt120.2 * x118001)))))) (wrap64 (-(wrap64 ((wrap64 (x117000 * x118001)) - (wrap64 (x117001 * x118000))))))).bind fun t122 => (some t122)) else ((spec_l14Far.f k (wrap64 ((wrap64 (bt120.1 * x118000)) + (wrap64 (bt120.2 * x118001)))) (wrap64 ((wrap64 (x117000 * x118001)) - (wrap64 (x117001 * x118000))))).bind fun t123 => (some t123))))
def spec_SlopeDistance.f (k : Nat) (a0_0 : Int) (a0_1 : Int) (a1_0 : Int) (a1_1 : Int) : Option (Int) := (spec_IsSlope.f k a0_0 a0_1).bind fun t118 => (if t118 = true then ((spec_IsSlope.f k a1_0 a1_1).bind fun t119 => (spec_SlopeDistance.j0 k (!t119) a0_0 a0_1 a1_0 a1_1)) else (spec_SlopeDistance.j0 k true a0_0 a0_1 a1_0 a1_1))
theorem spec_SlopeDistance.mono_l : ∀ k, (∀ y0 y1 y2 y3 y4, LeO (spec_SlopeDistance.j0 k y0 y1 y2 y3 y4) (spec_SlopeDistance.j0 (k + 1) y0 y1 y2 y3 y4))
 | 0 => fun _ _ _ _ _ r h => by simp [spec_SlopeDistance.j0] at h
 | k + 1 => by
  have ih0 := spec_SlopeDistance.mono_l k
  ·intro y0 y1 y2 y3 y4
   unfold spec_SlopeDistance.j0
   repeat' first
   | (with_reducible exact ih0 _ _ _ _ _)
   | (with_reducible exact spec_IsSlope.mono _ _ _)
   | (with_reducible exact spec_l14Bezout.mono _ _ _)
   | (with_reducible exact spec_l14Far.mono _ _ _)
   | (with_reducible exact LeO.refl _)
   | (with_reducible exact LeO.none _)
   | (with_reducible refine LeO.ite ?_ ?_)
   | (with_reducible refine LeO.bind ?_ (fun _ => ?_))
   | exact ih0 _ _ _ _ _
   | exact spec_IsSlope.mono _ _ _
   | exact spec_l14Bezout.mono _ _ _
   | exact spec_l14Far.mono _ _ _
   | exact LeO.none _
   | refine LeO.ite ?_ ?_
   | refine LeO.bind ?_ (fun _ => ?_)
theorem spec_SlopeDistance.mono : ∀ a0 a1 a2 a3 k, LeO (spec_SlopeDistance.f k a0 a1 a2 a3) (spec_SlopeDistance.f (k + 1) a0 a1 a2 a3) := by
 intro a0 a1 a2 a3 k
 have ih0 := spec_SlopeDistance.mono_l k
 unfold spec_SlopeDistance.f
 repeat' first
   | (with_reducible exact ih0 _ _ _ _ _)
   | (with_reducible exact spec_IsSlope.mono _ _ _)
   | (with_reducible exact spec_l14Bezout.mono _ _ _)
   | (with_reducible exact spec_l14Far.mono _ _ _)
   | (with_reducible exact LeO.refl _)
   | (with_reducible exact LeO.none _)
   | (with_reducible refine LeO.ite ?_ ?_)
   | (with_reducible refine LeO.bind ?_ (fun _ => ?_))
   | exact ih0 _ _ _ _ _
   | exact spec_IsSlope.mono _ _ _
   | exact spec_l14Bezout.mono _ _ _
   | exact spec_l14Far.mono _ _ _
   | exact LeO.none _
   | refine LeO.ite ?_ ?_
   | refine LeO.bind ?_ (fun _ => ?_)
set_option maxHeartbeats 8000000 in
set_option maxRecDepth 100000 in
theorem spec_SlopeDistance.calls (k : Nat) (a0_0 : Int) (a0_1 : Int) (a1_0 : Int) (a1_1 : Int) (r : Int) (w : World) (h : spec_SlopeDistance.f k a0_0 a0_1 a1_0 a1_1 = some r) :
  Calls Try.prog 5 #[.agg #[.int .i64 a0_0, .int .i64 a0_1], .agg #[.int .i64 a1_0, .int .i64 a1_1]] w fun e w' => e = .returned (.int .i64 r) ∧ Below w.heap.size w w' := by
 have hu25 := Try.underlying25
 have HB := Az.mk (Below.refl w.heap.size w)
 have H : ((spec_IsSlope.f k a0_0 a0_1).bind fun t118 => (if t118 = true then ((spec_IsSlope.f k a1_0 a1_1).bind fun t119 => (spec_SlopeDistance.j0 k (!t119) a0_0 a0_1 a1_0 a1_1)) else (spec_SlopeDistance.j0 k true a0_0 a0_1 a1_0 a1_1))) = some r := h
 clear h
 have HC3 := Az.mk H
 clear H
 go_enter Try.func5, Try.ntmps5
 go_upto_region 1 with (first | ((with_reducible refine gtD (N := 2) rfl ?_); refine bxE ?hg (N := 2) ?hd (cs := #[.int .i64 a0_0, .int .i64 a0_1]) (t := 25) ?hr ?_; (case hd => rfl); (case hg => rfl); (case hr => first | (go_simp; done) | (go_simp; rfl)); intro gb116 hg w4 hbox hb; have n0_ := Az.mk (bwT (by repeat (first | (with_reducible first | exact HB.out | apply bwA | apply pbN | apply bwD) | exact HB.out)) hb); have n1_ := Az.mk (hbox); have n2_ := Az.mk ((by rw [hg]; exact (bwZ (by repeat (first | (with_reducible first | exact HB.out | apply bwA | apply pbN | apply bwD) | exact HB.out))) : w.heap.size ≤ gb116)); have n3_ := Az.mk ((by rw [hg]; exact (bwZ (by repeat (first | (with_reducible first | exact HB.out | apply bwA | apply pbN | apply bwD) | exact HB.out))) : w.heap.size ≤ gb116)); clear HB; have HB := n0_; have BK116 := n1_; have GW116 := n2_; have GE116 := n3_; clear n0_ n1_ n2_ n3_; clear hb hbox hg) | ((with_reducible refine gtD (N := 3) rfl ?_); refine bxE ?hg (N := 3) ?hd (cs := #[.int .i64 a1_0, .int .i64 a1_1]) (t := 25) ?hr ?_; (case hd => rfl); (case hg => rfl); (case hr => first | (go_simp; done) | (go_simp; rfl)); intro gb117 hg w5 hbox hb; have n0_ := Az.mk (bkB (g := gb116) (o := .cells #[.int .i64 a0_0, .int .i64 a0_1] 25 (0, 0)) (by (with_reducible repeat (first | refine bkN ?_ _ | refine bkD ?_ | refine bkA ?_ _)); exact BK116.out) hb); have n1_ := Az.mk (bwT (by repeat (first | (with_reducible first | exact HB.out | apply bwA | apply pbN | apply bwD | refine bwS ?_ GE116.out) | exact HB.out)) hb); have n2_ := Az.mk (hbox); have n3_ := Az.mk ((by rw [hg]; exact (bwZ (by repeat (first | (with_reducible first | exact HB.out | apply bwA | apply pbN | apply bwD | refine bwS ?_ GE116.out) | exact HB.out))) : w.heap.size ≤ gb117)); have n4_ := Az.mk ((by rw [hg]; exact (bwZ (by repeat (first | (with_reducible first | exact HB.out | apply bwA | apply pbN | apply bwD | refine bwS ?_ GE116.out) | exact HB.out))) : w.heap.size ≤ gb117)); have n5_ := Az.mk ((by rw [hg]; exact Nat.ne_of_lt (blk_lt (g := gb116) (o := .cells #[.int .i64 a0_0, .int .i64 a0_1] 25 (0, 0)) (by (with_reducible repeat (first | refine bkN ?_ _ | refine bkD ?_ | refine bkA ?_ _)); exact BK116.out)) : gb116 ≠ gb117)); have n6_ := Az.mk ((by rw [hg]; exact Nat.ne_of_gt (blk_lt (g := gb116) (o := .cells #[.int .i64 a0_0, .int .i64 a0_1] 25 (0, 0)) (by (with_reducible repeat (first | refine bkN ?_ _ | refine bkD ?_ | refine bkA ?_ _)); exact BK116.out)) : gb117 ≠ gb116)); clear BK116; clear HB; have BK116 := n0_; have HB := n1_; have BK117 := n2_; have GW117 := n3_; have GE117 := n4_; have NB116_117 := n5_; have NB117_116 := n6_; clear n0_ n1_ n2_ n3_ n4_ n5_ n6_; clear hb hbox hg))
 (try simp only [Act.put, List.setIfInBounds_toArray, List.set_cons_zero, List.set_cons_succ])
 go_cut [16] (fun v16 wc => ∃ (kq : Nat) (x16_2 : Bool), v16 = .bool x16_2 ∧ Az (spec_SlopeDistance.j0 kq x16_2 a0_0 a0_1 a1_0 a1_1 = some r) ∧ Az (kq ≤ k) ∧ Az (wc.heap[gb116]? = some (.cells #[.int .i64 a0_0, .int .i64 a0_1] 25 (0, 0))) ∧ Az (wc.heap[gb117]? = some (.cells #[.int .i64 a1_0, .int .i64 a1_1] 25 (0, 0))) ∧ Az (Below w.heap.size w wc))
 case first =>
  have H := HC3.out
  clear HC3
  replace H := Option.bind_eq_some_iff.mp H
  obtain ⟨t118, A60, H⟩ := H
  replace H : (if t118 = true then ((spec_IsSlope.f k a1_0 a1_1).bind fun t119 => (spec_SlopeDistance.j0 k (!t119) a0_0 a0_1 a1_0 a1_1)) else (spec_SlopeDistance.j0 k true a0_0 a0_1 a1_0 a1_1)) = some r := H
  have A6 := Az.mk A60
  clear A60
  by_cases c7 : t118 = true
  ·subst c7
   have H1 : ((spec_IsSlope.f k a1_0 a1_1).bind fun t119 => (spec_SlopeDistance.j0 k (!t119) a0_0 a0_1 a1_0 a1_1)) = some r := by rw [if_pos rfl] at H; exact H
   clear H
   have H := H1
   clear H1
   replace H := Option.bind_eq_some_iff.mp H
   obtain ⟨t119, A80, H⟩ := H
   replace H : (spec_SlopeDistance.j0 k (!t119) a0_0 a0_1 a1_0 a1_1) = some r := H
   have A8 := Az.mk A80
   clear A80
   have H' := Az.mk H
   clear H
   have hnb9 := NB116_117.out
   have hnc9 := NB117_116.out
   have hcz10_0 : w5.cell? ⟨gb116, 0, none⟩ = some (.int .i64 a0_0) := (bkC BK116.out 0).trans rfl
   have hcz10_1 : w5.cell? ⟨gb116, 1, none⟩ = some (.int .i64 a0_1) := (bkC BK116.out 1).trans rfl
   have hfz10_0 := bkF BK116.out 0
   have hfz10_1 := bkF BK116.out 1
   go_wp2_with (first | ((with_reducible refine gtC (f := 13) rfl ?_); refine goesL_ (some 10) rfl rfl Try.func13 (by kernel_rfl) rfl #[.agg #[.int .i64 a0_0, .int .i64 a0_1]] rfl (by (try simp only [List.map_toArray, List.map_cons, List.map_nil]); first | done | rfl | (simp only [List.length_drop, List.length_take]; rfl)) ?_; (with_reducible refine (spec_IsSlope.calls k a0_0 a0_1 true _ A6.out).mono ?_); rintro e w11 ⟨rfl, hb⟩; refine ⟨_, rfl, ?_⟩; have n0_ := Az.mk (bkB (g := gb116) (o := .cells #[.int .i64 a0_0, .int .i64 a0_1] 25 (0, 0)) (by (with_reducible repeat (first | refine bkN ?_ _ | refine bkD ?_ | refine bkA ?_ _)); exact BK116.out) hb); have n1_ := Az.mk (bkB (g := gb117) (o := .cells #[.int .i64 a1_0, .int .i64 a1_1] 25 (0, 0)) (by (with_reducible repeat (first | refine bkN ?_ _ | refine bkD ?_ | refine bkA ?_ _)); exact BK117.out) hb); have n2_ := Az.mk (bwT (by repeat (first | (with_reducible first | exact HB.out | apply bwA | apply pbN | apply bwD | refine bwS ?_ GE116.out | refine bwS ?_ GE117.out) | exact HB.out)) hb); clear BK116; clear BK117; clear HB; have BK116 := n0_; have BK117 := n1_; have HB := n2_; clear n0_ n1_ n2_; (try clear hb); (try clear hb2); (try clear hk); (try clear hi); have hcz12_0 : w11.cell? ⟨gb117, 0, none⟩ = some (.int .i64 a1_0) := (bkC BK117.out 0).trans rfl; have hcz12_1 : w11.cell? ⟨gb117, 1, none⟩ = some (.int .i64 a1_1) := (bkC BK117.out 1).trans rfl; have hfz12_0 := bkF BK117.out 0; have hfz12_1 := bkF BK117.out 1) | (go_at_call 13; (with_reducible refine (spec_IsSlope.calls k a1_0 a1_1 t119 _ A8.out).mono ?_); rintro e w13 ⟨rfl, hb⟩; have n0_ := Az.mk (bkB (g := gb116) (o := .cells #[.int .i64 a0_0, .int .i64 a0_1] 25 (0, 0)) (by (with_reducible repeat (first | refine bkN ?_ _ | refine bkD ?_ | refine bkA ?_ _)); exact BK116.out) hb); have n1_ := Az.mk (bkB (g := gb117) (o := .cells #[.int .i64 a1_0, .int .i64 a1_1] 25 (0, 0)) (by (with_reducible repeat (first | refine bkN ?_ _ | refine bkD ?_ | refine bkA ?_ _)); exact BK117.out) hb); have n2_ := Az.mk (bwT (by repeat (first | (with_reducible first | exact HB.out | apply bwA | apply pbN | apply bwD | refine bwS ?_ GE116.out | refine bwS ?_ GE117.out) | exact HB.out)) hb); clear BK116; clear BK117; clear HB; have BK116 := n0_; have BK117 := n1_; have HB := n2_; clear n0_ n1_ n2_; (try clear hb); (try clear hb2); (try clear hk); (try clear hi)))
   go_meet
   case rel => exact ⟨_, (!t119), (by first | rfl | (simp; done) | (simp [*]; done)), H', ⟨by first | omega | exact Nat.le_refl _⟩, ⟨by (with_reducible repeat (first | refine bkN ?_ _ | refine bkD ?_ | refine bkA ?_ _)); exact BK116.out⟩, ⟨by (with_reducible repeat (first | refine bkN ?_ _ | refine bkD ?_ | refine bkA ?_ _)); exact BK117.out⟩, ⟨by repeat (first | (with_reducible first | exact HB.out | apply bwA | apply pbN | apply bwD | refine bwS ?_ GE116.out | refine bwS ?_ GE117.out) | exact HB.out)⟩⟩
  ·replace c7 := Bool.eq_false_iff.mpr c7
   subst c7
   have H1 : (spec_SlopeDistance.j0 k true a0_0 a0_1 a1_0 a1_1) = some r := by rw [if_neg (show ¬ (false = true) by decide)] at H; exact H
   clear H
   have H := H1
   clear H1
   have H' := Az.mk H
   clear H
   have hnb14 := NB116_117.out
   have hnc14 := NB117_116.out
   have hcz15_0 : w5.cell? ⟨gb116, 0, none⟩ = some (.int .i64 a0_0) := (bkC BK116.out 0).trans rfl
   have hcz15_1 : w5.cell? ⟨gb116, 1, none⟩ = some (.int .i64 a0_1) := (bkC BK116.out 1).trans rfl
   have hfz15_0 := bkF BK116.out 0
   have hfz15_1 := bkF BK116.out 1
   go_wp2_with (first | ((with_reducible refine gtC (f := 13) rfl ?_); refine goesL_ (some 10) rfl rfl Try.func13 (by kernel_rfl) rfl #[.agg #[.int .i64 a0_0, .int .i64 a0_1]] rfl (by (try simp only [List.map_toArray, List.map_cons, List.map_nil]); first | done | rfl | (simp only [List.length_drop, List.length_take]; rfl)) ?_; (with_reducible refine (spec_IsSlope.calls k a0_0 a0_1 false _ A6.out).mono ?_); rintro e w16 ⟨rfl, hb⟩; refine ⟨_, rfl, ?_⟩; have n0_ := Az.mk (bkB (g := gb116) (o := .cells #[.int .i64 a0_0, .int .i64 a0_1] 25 (0, 0)) (by (with_reducible repeat (first | refine bkN ?_ _ | refine bkD ?_ | refine bkA ?_ _)); exact BK116.out) hb); have n1_ := Az.mk (bkB (g := gb117) (o := .cells #[.int .i64 a1_0, .int .i64 a1_1] 25 (0, 0)) (by (with_reducible repeat (first | refine bkN ?_ _ | refine bkD ?_ | refine bkA ?_ _)); exact BK117.out) hb); have n2_ := Az.mk (bwT (by repeat (first | (with_reducible first | exact HB.out | apply bwA | apply pbN | apply bwD | refine bwS ?_ GE116.out | refine bwS ?_ GE117.out) | exact HB.out)) hb); clear BK116; clear BK117; clear HB; have BK116 := n0_; have BK117 := n1_; have HB := n2_; clear n0_ n1_ n2_; (try clear hb); (try clear hb2); (try clear hk); (try clear hi)))
   go_meet
   case rel => exact ⟨_, (true), (by first | rfl | (simp; done) | (simp [*]; done)), H', ⟨by first | omega | exact Nat.le_refl _⟩, ⟨by (with_reducible repeat (first | refine bkN ?_ _ | refine bkD ?_ | refine bkA ?_ _)); exact BK116.out⟩, ⟨by (with_reducible repeat (first | refine bkN ?_ _ | refine bkD ?_ | refine bkA ?_ _)); exact BK117.out⟩, ⟨by repeat (first | (with_reducible first | exact HB.out | apply bwA | apply pbN | apply bwD | refine bwS ?_ GE116.out | refine bwS ?_ GE117.out) | exact HB.out)⟩⟩
 case rest =>
  clear HC3
  try clear c1
  try clear p2
  try clear c5
  try clear c7
  try clear c9
  try clear c13
  try clear c14
  try clear hcz10_0
  try clear hcz10_1
  try clear hcz12_0
  try clear hcz12_1
  try clear hcz15_0
  try clear hcz15_1
  try clear hfz10_0
  try clear hfz10_1
  try clear hfz12_0
  try clear hfz12_1
  try clear hfz15_0
  try clear hfz15_1
  obtain ⟨kq, x16_2, rfl, HA, HJ2, BK116, BK117, HB⟩ := hcut
  cases kq with
  | zero => exact absurd HA.out (by simp [spec_SlopeDistance.j0])
  | succ kj2 =>
   have H := HA.out
   clear HA
   simp only [spec_SlopeDistance.j0] at H
   by_cases c17 : x16_2 = true
   ·subst c17
    have H1 : (some (-1)) = some r := by rw [if_pos rfl] at H; exact H
    clear H
    have H := H1
    clear H1
    obtain rfl := Option.some.inj H
    go_wp2
    go_ret
    exact ⟨by first | rfl | (simp [eWn, eWs] <;> rfl) | (simp [*, eWn, eWs] <;> rfl), by repeat (first | (with_reducible first | exact HB.out | apply bwA | apply pbN | apply bwD | refine bwS ?_ GE116.out | refine bwS ?_ GE117.out) | exact HB.out)⟩
   ·replace c17 := Bool.eq_false_iff.mpr c17
    subst c17
    have H1 : ((spec_l14Bezout.f kj2 a0_0 a0_1).bind fun bt120 => (if (wrap64 ((wrap64 (a0_0 * a1_1)) - (wrap64 (a0_1 * a1_0)))) < 0 then ((spec_l14Far.f kj2 (wrap64 (-(wrap64 ((wrap64 (bt120.1 * a1_0)) + (wrap64 (bt120.2 * a1_1)))))) (wrap64 (-(wrap64 ((wrap64 (a0_0 * a1_1)) - (wrap64 (a0_1 * a1_0))))))).bind fun t122 => (some t122)) else ((spec_l14Far.f kj2 (wrap64 ((wrap64 (bt120.1 * a1_0)) + (wrap64 (bt120.2 * a1_1)))) (wrap64 ((wrap64 (a0_0 * a1_1)) - (wrap64 (a0_1 * a1_0))))).bind fun t123 => (some t123)))) = some r := by rw [if_neg (show ¬ (false = true) by decide)] at H; exact H
    clear H
    have H := H1
    clear H1
    replace H := Option.bind_eq_some_iff.mp H
    obtain ⟨⟨t120, t121⟩, A180, H⟩ := H
    replace H : (if (wrap64 ((wrap64 (a0_0 * a1_1)) - (wrap64 (a0_1 * a1_0)))) < 0 then ((spec_l14Far.f kj2 (wrap64 (-(wrap64 ((wrap64 (t120 * a1_0)) + (wrap64 (t121 * a1_1)))))) (wrap64 (-(wrap64 ((wrap64 (a0_0 * a1_1)) - (wrap64 (a0_1 * a1_0))))))).bind fun t122 => (some t122)) else ((spec_l14Far.f kj2 (wrap64 ((wrap64 (t120 * a1_0)) + (wrap64 (t121 * a1_1)))) (wrap64 ((wrap64 (a0_0 * a1_1)) - (wrap64 (a0_1 * a1_0))))).bind fun t123 => (some t123))) = some r := H
    have A18 := Az.mk A180
    clear A180
    by_cases c19 : (wrap64 ((wrap64 (a0_0 * a1_1)) - (wrap64 (a0_1 * a1_0)))) < 0
    ·rw [if_pos c19] at H
     have c19b0 : decide ((wrap64 ((wrap64 (a0_0 * a1_1)) - (wrap64 (a0_1 * a1_0)))) < 0) = true := decide_eq_true c19
     clear c19
     replace H := Option.bind_eq_some_iff.mp H
     obtain ⟨t122, A200, H⟩ := H
     replace H : (some t122) = some r := H
     have A20 := Az.mk A200
     clear A200
     obtain rfl := Option.some.inj H
     have hnb21 := NB116_117.out
     have hnc21 := NB117_116.out
     have hcz22_0 : wc.cell? ⟨gb116, 0, none⟩ = some (.int .i64 a0_0) := (bkC BK116.out 0).trans rfl
     have hcz22_1 : wc.cell? ⟨gb116, 1, none⟩ = some (.int .i64 a0_1) := (bkC BK116.out 1).trans rfl
     have hfz22_0 := bkF BK116.out 0
     have hfz22_1 := bkF BK116.out 1
     go_wp2_with (first | ((with_reducible refine gtC (f := 14) rfl ?_); refine goesL_ (some 22) rfl rfl Try.func14 (by kernel_rfl) rfl #[.int .i64 a0_0, .int .i64 a0_1] rfl (by (try simp only [List.map_toArray, List.map_cons, List.map_nil]); first | done | rfl | (simp only [List.length_drop, List.length_take]; rfl)) ?_; (with_reducible refine (spec_l14Bezout.calls kj2 a0_0 a0_1 t120 t121 _ A18.out).mono ?_); rintro e w' ⟨rfl, ⟨nd, rfl⟩⟩; refine ⟨_, rfl, ?_⟩; have hcz23_0 : wc.cell? ⟨gb117, 0, none⟩ = some (.int .i64 a1_0) := (bkC BK117.out 0).trans rfl; have hcz23_1 : wc.cell? ⟨gb117, 1, none⟩ = some (.int .i64 a1_1) := (bkC BK117.out 1).trans rfl; have hfz23_0 := bkF BK117.out 0; have hfz23_1 := bkF BK117.out 1) | ((with_reducible refine gtC (f := 15) rfl ?_); refine goesL_ (some 53) rfl rfl Try.func15 (by kernel_rfl) rfl #[.int .i64 (wrap64 (-(wrap64 ((wrap64 (t120 * a1_0)) + (wrap64 (t121 * a1_1)))))), .int .i64 (wrap64 (-(wrap64 ((wrap64 (a0_0 * a1_1)) - (wrap64 (a0_1 * a1_0))))))] rfl (by (try simp only [List.map_toArray, List.map_cons, List.map_nil]); first | done | rfl | (simp only [List.length_drop, List.length_take]; rfl)) ?_; (with_reducible refine (spec_l14Far.calls kj2 (wrap64 (-(wrap64 ((wrap64 (t120 * a1_0)) + (wrap64 (t121 * a1_1)))))) (wrap64 (-(wrap64 ((wrap64 (a0_0 * a1_1)) - (wrap64 (a0_1 * a1_0)))))) t122 _ A20.out).mono ?_); rintro e w' ⟨rfl, ⟨nd, rfl⟩⟩; refine ⟨_, rfl, ?_⟩))
     go_ret
     exact ⟨by first | rfl | (simp [eWn, eWs] <;> rfl) | (simp [*, eWn, eWs] <;> rfl), by repeat (first | (with_reducible first | exact HB.out | apply bwA | apply pbN | apply bwD | refine bwS ?_ GE116.out | refine bwS ?_ GE117.out) | exact HB.out)⟩
    ·rw [if_neg c19] at H
     have c19b0 : decide ((wrap64 ((wrap64 (a0_0 * a1_1)) - (wrap64 (a0_1 * a1_0)))) < 0) = false := decide_eq_false c19
     clear c19
     replace H := Option.bind_eq_some_iff.mp H
     obtain ⟨t123, A240, H⟩ := H
     replace H : (some t123) = some r := H
     have A24 := Az.mk A240
     clear A240
     obtain rfl := Option.some.inj H
     have hnb25 := NB116_117.out
     have hnc25 := NB117_116.out
     have hcz26_0 : wc.cell? ⟨gb116, 0, none⟩ = some (.int .i64 a0_0) := (bkC BK116.out 0).trans rfl
     have hcz26_1 : wc.cell? ⟨gb116, 1, none⟩ = some (.int .i64 a0_1) := (bkC BK116.out 1).trans rfl
     have hfz26_0 := bkF BK116.out 0
     have hfz26_1 := bkF BK116.out 1
     go_wp2_with (first | ((with_reducible refine gtC (f := 14) rfl ?_); refine goesL_ (some 22) rfl rfl Try.func14 (by kernel_rfl) rfl #[.int .i64 a0_0, .int .i64 a0_1] rfl (by (try simp only [List.map_toArray, List.map_cons, List.map_nil]); first | done | rfl | (simp only [List.length_drop, List.length_take]; rfl)) ?_; (with_reducible refine (spec_l14Bezout.calls kj2 a0_0 a0_1 t120 t121 _ A18.out).mono ?_); rintro e w' ⟨rfl, ⟨nd, rfl⟩⟩; refine ⟨_, rfl, ?_⟩; have hcz27_0 : wc.cell? ⟨gb117, 0, none⟩ = some (.int .i64 a1_0) := (bkC BK117.out 0).trans rfl; have hcz27_1 : wc.cell? ⟨gb117, 1, none⟩ = some (.int .i64 a1_1) := (bkC BK117.out 1).trans rfl; have hfz27_0 := bkF BK117.out 0; have hfz27_1 := bkF BK117.out 1) | ((with_reducible refine gtC (f := 15) rfl ?_); refine goesL_ (some 53) rfl rfl Try.func15 (by kernel_rfl) rfl #[.int .i64 (wrap64 ((wrap64 (t120 * a1_0)) + (wrap64 (t121 * a1_1)))), .int .i64 (wrap64 ((wrap64 (a0_0 * a1_1)) - (wrap64 (a0_1 * a1_0))))] rfl (by (try simp only [List.map_toArray, List.map_cons, List.map_nil]); first | done | rfl | (simp only [List.length_drop, List.length_take]; rfl)) ?_; (with_reducible refine (spec_l14Far.calls kj2 (wrap64 ((wrap64 (t120 * a1_0)) + (wrap64 (t121 * a1_1)))) (wrap64 ((wrap64 (a0_0 * a1_1)) - (wrap64 (a0_1 * a1_0)))) t123 _ A24.out).mono ?_); rintro e w' ⟨rfl, ⟨nd, rfl⟩⟩; refine ⟨_, rfl, ?_⟩))
     go_ret
     exact ⟨by first | rfl | (simp [eWn, eWs] <;> rfl) | (simp [*, eWn, eWs] <;> rfl), by repeat (first | (with_reducible first | exact HB.out | apply bwA | apply pbN | apply bwD | refine bwS ?_ GE116.out | refine bwS ?_ GE117.out) | exact HB.out)⟩

/-! ### laws_toSlope: function 6 -/
def laws_toSlope.f (a0_0 : Int) (a0_1 : Int) : Option (Int × Int) := some (a0_0, a0_1)
set_option maxHeartbeats 8000000 in
set_option maxRecDepth 100000 in
theorem laws_toSlope.calls (a0_0 : Int) (a0_1 : Int) (r1 : Int) (r2 : Int) (w : World) (h : laws_toSlope.f a0_0 a0_1 = some (r1, r2)) :
  Calls Try.prog 6 #[.agg #[.int .i64 a0_0, .int .i64 a0_1]] w fun e w' => e = .returned (.agg #[.int .i64 r1, .int .i64 r2]) ∧ Below w.heap.size w w' := by
 have hu23 := Try.underlying23
 have hu25 := Try.underlying25
 have HB := Az.mk (Below.refl w.heap.size w)
 have H : (some (a0_0, a0_1)) = some (r1, r2) := h
 clear h
 simp only [Option.some.injEq, Prod.mk.injEq] at H
 obtain ⟨rfl, rfl⟩ := H
 go_enter Try.func6, Try.ntmps6
 go_wp2_with (first | ((with_reducible refine gtD (N := 1) rfl ?_); refine bxE ?hg (N := 1) ?hd (cs := #[.int .i64 a0_0, .int .i64 a0_1]) (t := 23) ?hr ?_; (case hd => rfl); (case hg => rfl); (case hr => first | (go_simp; done) | (go_simp; rfl)); intro gb124 hg w2 hbox hb; have n0_ := Az.mk (bwT (by repeat (first | (with_reducible first | exact HB.out | apply bwA | apply pbN | apply bwD) | exact HB.out)) hb); have n1_ := Az.mk (hbox); have n2_ := Az.mk ((by rw [hg]; exact (bwZ (by repeat (first | (with_reducible first | exact HB.out | apply bwA | apply pbN | apply bwD) | exact HB.out))) : w.heap.size ≤ gb124)); have n3_ := Az.mk ((by rw [hg]; exact (bwZ (by repeat (first | (with_reducible first | exact HB.out | apply bwA | apply pbN | apply bwD) | exact HB.out))) : w.heap.size ≤ gb124)); clear HB; have HB := n0_; have BK124 := n1_; have GW124 := n2_; have GE124 := n3_; clear n0_ n1_ n2_ n3_; clear hb hbox hg) | ((with_reducible refine gtD (N := 2) rfl ?_); refine bxE ?hg (N := 2) ?hd (cs := #[.int .i64 0, .int .i64 0]) (t := 25) ?hr ?_; (case hd => rfl); (case hg => rfl); (case hr => first | (go_simp; done) | (go_simp; rfl)); intro gb125 hg w3 hbox hb; have n0_ := Az.mk (bkB (g := gb124) (o := .cells #[.int .i64 a0_0, .int .i64 a0_1] 23 (0, 0)) (by (with_reducible repeat (first | refine bkN ?_ _ | refine bkD ?_ | refine bkA ?_ _)); exact BK124.out) hb); have n1_ := Az.mk (bwT (by repeat (first | (with_reducible first | exact HB.out | apply bwA | apply pbN | apply bwD | refine bwS ?_ GE124.out) | exact HB.out)) hb); have n2_ := Az.mk (hbox); have n3_ := Az.mk ((by rw [hg]; exact (bwZ (by repeat (first | (with_reducible first | exact HB.out | apply bwA | apply pbN | apply bwD | refine bwS ?_ GE124.out) | exact HB.out))) : w.heap.size ≤ gb125)); have n4_ := Az.mk ((by rw [hg]; exact (bwZ (by repeat (first | (with_reducible first | exact HB.out | apply bwA | apply pbN | apply bwD | refine bwS ?_ GE124.out) | exact HB.out))) : w.heap.size ≤ gb125)); have n5_ := Az.mk ((by rw [hg]; exact Nat.ne_of_lt (blk_lt (g := gb124) (o := .cells #[.int .i64 a0_0, .int .i64 a0_1] 23 (0, 0)) (by (with_reducible repeat (first | refine bkN ?_ _ | refine bkD ?_ | refine bkA ?_ _)); exact BK124.out)) : gb124 ≠ gb125)); have n6_ := Az.mk ((by rw [hg]; exact Nat.ne_of_gt (blk_lt (g := gb124) (o := .cells #[.int .i64 a0_0, .int .i64 a0_1] 23 (0, 0)) (by (with_reducible repeat (first | refine bkN ?_ _ | refine bkD ?_ | refine bkA ?_ _)); exact BK124.out)) : gb125 ≠ gb124)); clear BK124; clear HB; have BK124 := n0_; have HB := n1_; have BK125 := n2_; have GW125 := n3_; have GE125 := n4_; have NB124_125 := n5_; have NB125_124 := n6_; clear n0_ n1_ n2_ n3_ n4_ n5_ n6_; clear hb hbox hg) | ((with_reducible refine gtD (N := 3) rfl ?_); refine bxE ?hg (N := 3) ?hd (cs := #[.int .i64 0, .int .i64 0]) (t := 25) ?hr ?_; (case hd => rfl); (case hg => rfl); (case hr => first | (go_simp; done) | (go_simp; rfl)); intro gb126 hg w4 hbox hb; have n0_ := Az.mk (bkB (g := gb124) (o := .cells #[.int .i64 a0_0, .int .i64 a0_1] 23 (0, 0)) (by (with_reducible repeat (first | refine bkN ?_ _ | refine bkD ?_ | refine bkA ?_ _)); exact BK124.out) hb); have n1_ := Az.mk (bkB (g := gb125) (o := .cells #[.int .i64 0, .int .i64 0] 25 (0, 0)) (by (with_reducible repeat (first | refine bkN ?_ _ | refine bkD ?_ | refine bkA ?_ _)); exact BK125.out) hb); have n2_ := Az.mk (bwT (by repeat (first | (with_reducible first | exact HB.out | apply bwA | apply pbN | apply bwD | refine bwS ?_ GE124.out | refine bwS ?_ GE125.out) | exact HB.out)) hb); have n3_ := Az.mk (hbox); have n4_ := Az.mk ((by rw [hg]; exact (bwZ (by repeat (first | (with_reducible first | exact HB.out | apply bwA | apply pbN | apply bwD | refine bwS ?_ GE124.out | refine bwS ?_ GE125.out) | exact HB.out))) : w.heap.size ≤ gb126)); have n5_ := Az.mk ((by rw [hg]; exact (bwZ (by repeat (first | (with_reducible first | exact HB.out | apply bwA | apply pbN | apply bwD | refine bwS ?_ GE124.out | refine bwS ?_ GE125.out) | exact HB.out))) : w.heap.size ≤ gb126)); have n6_ := Az.mk ((by rw [hg]; exact Nat.ne_of_lt (blk_lt (g := gb124) (o := .cells #[.int .i64 a0_0, .int .i64 a0_1] 23 (0, 0)) (by (with_reducible repeat (first | refine bkN ?_ _ | refine bkD ?_ | refine bkA ?_ _)); exact BK124.out)) : gb124 ≠ gb126)); have n7_ := Az.mk ((by rw [hg]; exact Nat.ne_of_gt (blk_lt (g := gb124) (o := .cells #[.int .i64 a0_0, .int .i64 a0_1] 23 (0, 0)) (by (with_reducible repeat (first | refine bkN ?_ _ | refine bkD ?_ | refine bkA ?_ _)); exact BK124.out)) : gb126 ≠ gb124)); have n8_ := Az.mk ((by rw [hg]; exact Nat.ne_of_lt (blk_lt (g := gb125) (o := .cells #[.int .i64 0, .int .i64 0] 25 (0, 0)) (by (with_reducible repeat (first | refine bkN ?_ _ | refine bkD ?_ | refine bkA ?_ _)); exact BK125.out)) : gb125 ≠ gb126)); have n9_ := Az.mk ((by rw [hg]; exact Nat.ne_of_gt (blk_lt (g := gb125) (o := .cells #[.int .i64 0, .int .i64 0] 25 (0, 0)) (by (with_reducible repeat (first | refine bkN ?_ _ | refine bkD ?_ | refine bkA ?_ _)); exact BK125.out)) : gb126 ≠ gb125)); clear BK124; clear BK125; clear HB; have BK124 := n0_; have BK125 := n1_; have HB := n2_; have BK126 := n3_; have GW126 := n4_; have GE126 := n5_; have NB124_126 := n6_; have NB126_124 := n7_; have NB125_126 := n8_; have NB126_125 := n9_; clear n0_ n1_ n2_ n3_ n4_ n5_ n6_ n7_ n8_ n9_; clear hb hbox hg; have hnb5 := NB124_125.out; have hnc5 := NB125_124.out; have hnb6 := NB124_126.out; have hnc6 := NB126_124.out; have hcz7_0 : w4.cell? ⟨gb124, 0, none⟩ = some (.int .i64 a0_0) := (bkC BK124.out 0).trans rfl; have hcz7_1 : w4.cell? ⟨gb124, 1, none⟩ = some (.int .i64 a0_1) := (bkC BK124.out 1).trans rfl; have hfz7_0 := bkF BK124.out 0; have hfz7_1 := bkF BK124.out 1; have hnb8 := NB126_125.out; have hnc8 := NB125_126.out; have hcz9_0 : w4.cell? ⟨gb126, 0, none⟩ = some (.int .i64 0) := (bkC BK126.out 0).trans rfl; have hcz9_1 : w4.cell? ⟨gb126, 1, none⟩ = some (.int .i64 0) := (bkC BK126.out 1).trans rfl; have hfz9_0 := bkF BK126.out 0; have hfz9_1 := bkF BK126.out 1; have hcz10_0 : w4.cell? ⟨gb125, 0, none⟩ = some (.int .i64 0) := (bkC BK125.out 0).trans rfl; have hcz10_1 : w4.cell? ⟨gb125, 1, none⟩ = some (.int .i64 0) := (bkC BK125.out 1).trans rfl; have hfz10_0 := bkF BK125.out 0; have hfz10_1 := bkF BK125.out 1))
 refine bodyPost_ret (results_cell_row rfl _ _ gb125 25 #[.int .i64 a0_0, .int .i64 a0_1] (0, 0) _ rfl (by (with_reducible repeat (first | refine bkN ?_ _ | refine bkD ?_ | refine bkA ?_ _)); refine bkp (cs := #[.int .i64 a0_0, .int .i64 0]) ?_ 1 _ rfl; (with_reducible repeat (first | refine bkN ?_ _ | refine bkD ?_ | refine bkA ?_ _)); refine bkp (cs := #[.int .i64 0, .int .i64 0]) ?_ 0 _ rfl; (with_reducible repeat (first | refine bkN ?_ _ | refine bkD ?_ | refine bkA ?_ _)); refine bkf ?_ NB125_126.out _; (with_reducible repeat (first | refine bkN ?_ _ | refine bkD ?_ | refine bkA ?_ _)); refine bkf ?_ NB125_126.out _; (with_reducible repeat (first | refine bkN ?_ _ | refine bkD ?_ | refine bkA ?_ _)); exact BK125.out) Try.underlying25 rfl (by kernel_rfl)) rfl ?_
 exact ⟨by first | rfl | (simp [eWn, eWs] <;> rfl) | (simp [*, eWn, eWs] <;> rfl), by repeat (first | (with_reducible first | exact HB.out | apply bwA | apply pbN | apply bwD | refine bwS ?_ GE124.out | refine bwS ?_ GE125.out | refine bwS ?_ GE126.out) | exact HB.out)⟩

/-! ### impl_within: function 29 -/
def impl_within.f (a0 : Int) (a1 : Int) (a2 : Int) : Option (Bool) := if a0 ≥ a1 then (some (decide (a0 ≤ a2))) else (some false)
set_option maxHeartbeats 8000000 in
set_option maxRecDepth 100000 in
theorem impl_within.calls (a0 : Int) (a1 : Int) (a2 : Int) (r : Bool) (w : World) (h : impl_within.f a0 a1 a2 = some r) :
  Calls Try.prog 29 #[.int .i64 a0, .int .i64 a1, .int .i64 a2] w fun e w' => e = .returned (.bool r) ∧ Drawn0 w w' := by
 have H : (if a0 ≥ a1 then (some (decide (a0 ≤ a2))) else (some false)) = some r := h
 clear h
 by_cases c4 : a0 ≥ a1
 ·rw [if_pos c4] at H
  have c4b0 : decide (a1 ≤ a0) = true := decide_eq_true c4
  clear c4
  obtain rfl := Option.some.inj H
  go_enter Try.func29, Try.ntmps29
  go_wp2
  go_ret
  exact ⟨by first | rfl | (simp; done) | (simp [*]; done), by repeat (first | exact Drawn0.refl _ | apply Drawn0.step)⟩
 ·rw [if_neg c4] at H
  have c4b0 : decide (a1 ≤ a0) = false := decide_eq_false c4
  clear c4
  obtain rfl := Option.some.inj H
  go_enter Try.func29, Try.ntmps29
  go_wp2
  go_ret
  exact ⟨by first | rfl | (simp; done) | (simp [*]; done), by repeat (first | exact Drawn0.refl _ | apply Drawn0.step)⟩

/-! ### impl_size: function 34 -/
def impl_size.f (a0 : Int) : Option (Int) := some (mx a0 (wrap64 (-a0)))
set_option maxHeartbeats 8000000 in
set_option maxRecDepth 100000 in
theorem impl_size.calls (a0 : Int) (r : Int) (w : World) (h : impl_size.f a0 = some r) :
  Calls Try.prog 34 #[.int .i64 a0] w fun e w' => e = .returned (.int .i64 r) ∧ Below w.heap.size w w' := by
 have HB := Az.mk (Below.refl w.heap.size w)
 have H : (some (mx a0 (wrap64 (-a0)))) = some r := h
 clear h
 obtain ⟨ji2, hji2⟩ : ∃ j_ : Int, (mx a0 (wrap64 (-a0))) = j_ := ⟨_, rfl⟩
 replace H : (some ji2) = some r := by first | (rw [hji2] at H; exact H) | (simp only [hji2] at H ⊢; exact H)
 have hji2_ : (if a0 < (wrap64 (-a0)) then (wrap64 (-a0)) else a0) = ji2 := hji2
 obtain rfl := Option.some.inj H
 go_enter Try.func34, Try.ntmps34
 go_wp2
 go_ret
 exact ⟨by first | rfl | (simp [eWn, eWs] <;> rfl) | (simp only [← hji2]; first | rfl | (simp [eWn, eWs] <;> rfl)) | (simp [*, eWn, eWs] <;> rfl), by repeat (first | (with_reducible first | exact HB.out | apply bwA | apply pbN | apply bwD) | exact HB.out)⟩

/-! ### impl_gcd: function 30 -/
def impl_gcd.l0 : Nat → Int → Int → Option (Int)
 | 0, _, _ => none
 | k + 1, x0, x1 => if x1 = 0 then (some x0) else (impl_gcd.l0 k x1 (Int.tmod x0 x1))
def impl_gcd.f (k : Nat) (a0 : Int) (a1 : Int) : Option (Int) := (impl_size.f a0).bind fun t127 => ((impl_size.f a1).bind fun t128 => (impl_gcd.l0 k t127 t128))
theorem impl_gcd.mono_l : ∀ k, (∀ y0 y1, LeO (impl_gcd.l0 k y0 y1) (impl_gcd.l0 (k + 1) y0 y1))
 | 0 => fun _ _ r h => by simp [impl_gcd.l0] at h
 | k + 1 => by
  have ih0 := impl_gcd.mono_l k
  ·intro y0 y1
   unfold impl_gcd.l0
   repeat' first
   | (with_reducible exact ih0 _ _)
   | (with_reducible exact LeO.refl _)
   | (with_reducible exact LeO.none _)
   | (with_reducible refine LeO.ite ?_ ?_)
   | (with_reducible refine LeO.bind ?_ (fun _ => ?_))
   | exact ih0 _ _
   | exact LeO.none _
   | refine LeO.ite ?_ ?_
   | refine LeO.bind ?_ (fun _ => ?_)
theorem impl_gcd.mono : ∀ a0 a1 k, LeO (impl_gcd.f k a0 a1) (impl_gcd.f (k + 1) a0 a1) := by
 intro a0 a1 k
 have ih0 := impl_gcd.mono_l k
 unfold impl_gcd.f
 repeat' first
   | (with_reducible exact ih0 _ _)
   | (with_reducible exact LeO.refl _)
   | (with_reducible exact LeO.none _)
   | (with_reducible refine LeO.ite ?_ ?_)
   | (with_reducible refine LeO.bind ?_ (fun _ => ?_))
   | exact ih0 _ _
   | exact LeO.none _
   | refine LeO.ite ?_ ?_
   | refine LeO.bind ?_ (fun _ => ?_)
set_option maxHeartbeats 8000000 in
set_option maxRecDepth 100000 in
theorem impl_gcd.calls (k : Nat) (a0 : Int) (a1 : Int) (r : Int) (w : World) (h : impl_gcd.f k a0 a1 = some r) :
  Calls Try.prog 30 #[.int .i64 a0, .int .i64 a1] w fun e w' => e = .returned (.int .i64 r) ∧ Below w.heap.size w w' := by
 have HB := Az.mk (Below.refl w.heap.size w)
 have H : ((impl_size.f a0).bind fun t127 => ((impl_size.f a1).bind fun t128 => (impl_gcd.l0 k t127 t128))) = some r := h
 clear h
 replace H := Option.bind_eq_some_iff.mp H
 obtain ⟨t127, A30, H⟩ := H
 replace H : ((impl_size.f a1).bind fun t128 => (impl_gcd.l0 k t127 t128)) = some r := H
 have A3 := Az.mk A30
 clear A30
 replace H := Option.bind_eq_some_iff.mp H
 obtain ⟨t128, A40, H⟩ := H
 replace H : (impl_gcd.l0 k t127 t128) = some r := H
 have A4 := Az.mk A40
 clear A40
 have H' := Az.mk H
 clear H
 go_enter Try.func30, Try.ntmps30
 go_wp2_with (first | (go_at_call 34; (with_reducible refine (impl_size.calls a0 t127 _ A3.out).mono ?_); rintro e w5 ⟨rfl, hb⟩; have n0_ := Az.mk (bwT (by repeat (first | (with_reducible first | exact HB.out | apply bwA | apply pbN | apply bwD) | exact HB.out)) hb); clear HB; have HB := n0_; clear n0_; (try clear hb); (try clear hb2); (try clear hk); (try clear hi)) | (go_at_call 34; (with_reducible refine (impl_size.calls a1 t128 _ A4.out).mono ?_); rintro e w6 ⟨rfl, hb⟩; have n0_ := Az.mk (bwT (by repeat (first | (with_reducible first | exact HB.out | apply bwA | apply pbN | apply bwD) | exact HB.out)) hb); clear HB; have HB := n0_; clear n0_; (try clear hb); (try clear hb2); (try clear hk); (try clear hi)))
 repeat (go_quiet (first | (go_at_call 34; (with_reducible refine (impl_size.calls a0 t127 _ A3.out).mono ?_); rintro e w5 ⟨rfl, hb⟩; have n0_ := Az.mk (bwT (by repeat (first | (with_reducible first | exact HB.out | apply bwA | apply pbN | apply bwD) | exact HB.out)) hb); clear HB; have HB := n0_; clear n0_; (try clear hb); (try clear hb2); (try clear hk); (try clear hi)) | (go_at_call 34; (with_reducible refine (impl_size.calls a1 t128 _ A4.out).mono ?_); rintro e w6 ⟨rfl, hb⟩; have n0_ := Az.mk (bwT (by repeat (first | (with_reducible first | exact HB.out | apply bwA | apply pbN | apply bwD) | exact HB.out)) hb); clear HB; have HB := n0_; clear n0_; (try clear hb); (try clear hb2); (try clear hk); (try clear hi))); try go_wp2_with (first | (go_at_call 34; (with_reducible refine (impl_size.calls a0 t127 _ A3.out).mono ?_); rintro e w5 ⟨rfl, hb⟩; have n0_ := Az.mk (bwT (by repeat (first | (with_reducible first | exact HB.out | apply bwA | apply pbN | apply bwD) | exact HB.out)) hb); clear HB; have HB := n0_; clear n0_; (try clear hb); (try clear hb2); (try clear hk); (try clear hi)) | (go_at_call 34; (with_reducible refine (impl_size.calls a1 t128 _ A4.out).mono ?_); rintro e w6 ⟨rfl, hb⟩; have n0_ := Az.mk (bwT (by repeat (first | (with_reducible first | exact HB.out | apply bwA | apply pbN | apply bwD) | exact HB.out)) hb); clear HB; have HB := n0_; clear n0_; (try clear hb); (try clear hb2); (try clear hk); (try clear hi))))
 go_loopg [0, 1] k (fun kq v0 v1 w' => ∃ (x0_1 : Int) (x1_1 : Int), v0 = .int .i64 x0_1 ∧ v1 = .int .i64 x1_1 ∧ Az (impl_gcd.l0 kq x0_1 x1_1 = some r) ∧ Az (kq ≤ k) ∧ Az (Below w.heap.size w w'))
 case atStart => exact ⟨(t127), (t128), (by first | rfl | (simp; done) | (simp [*]; done)), (by first | rfl | (simp; done) | (simp [*]; done)), H', ⟨Nat.le_refl _⟩, ⟨by repeat (first | (with_reducible first | exact HB.out | apply bwA | apply pbN | apply bwD) | exact HB.out)⟩⟩
 case round =>
  clear H'
  try clear p2
  try clear c3
  obtain ⟨x0_1, x1_1, rfl, rfl, HA, HK1, HB⟩ := hrel
  cases gk with
  | zero => exact absurd HA.out (by simp [impl_gcd.l0])
  | succ k1 =>
   have H := HA.out
   clear HA
   simp only [impl_gcd.l0] at H
   by_cases c7 : x1_1 = 0
   ·rw [if_pos c7] at H
    have c7b0 : (x1_1 == 0) = true := beq_iff_eq.mpr c7
    have c7b1 : (x1_1 != 0) = false := bne_eq_false_iff_eq.mpr c7
    clear c7
    obtain rfl := Option.some.inj H
    go_wp2
    repeat (go_quiet (fail); try go_wp2)
    go_ret
    exact ⟨by first | rfl | (simp [eWn, eWs] <;> rfl) | (simp [*, eWn, eWs] <;> rfl), by repeat (first | (with_reducible first | exact HB.out | apply bwA | apply pbN | apply bwD) | exact HB.out)⟩
   ·rw [if_neg c7] at H
    have c7b0 : (x1_1 == 0) = false := beq_eq_false_iff_ne.mpr c7
    have c7b1 : (x1_1 != 0) = true := bne_iff_ne.mpr c7
    have H' := Az.mk H
    clear H
    go_wp2
    repeat (go_quiet (fail); try go_wp2)
    go_roundg k1
    case measure => have := HK1.out; omega
    case rel => exact ⟨(x1_1), (Int.tmod x0_1 x1_1), (by first | rfl | (simp; done) | (simp [*]; done)), (by first | rfl | (simp; done) | (simp [*]; done)), H', ⟨by have := HK1.out; omega⟩, ⟨by repeat (first | (with_reducible first | exact HB.out | apply bwA | apply pbN | apply bwD) | exact HB.out)⟩⟩

/-! ### impl_IsSlope: function 16 -/
def impl_IsSlope.f (k : Nat) (a0_0 : Int) (a0_1 : Int) : Option (Bool) := (impl_within.f a0_0 (-1000) 1000).bind fun t130 => (if t130 = true then ((impl_within.f a0_1 0 1000).bind fun t131 => (if t131 = true then ((impl_gcd.f k a0_0 a0_1).bind fun t132 => (if t132 = 1 then (if a0_1 > 0 then (some true) else (some (a0_0 == 1))) else (some false))) else (some false))) else (some false))
theorem impl_IsSlope.mono : ∀ a0 a1 k, LeO (impl_IsSlope.f k a0 a1) (impl_IsSlope.f (k + 1) a0 a1) := by
 intro a0 a1 k
 unfold impl_IsSlope.f
 repeat' first
   | (with_reducible exact impl_gcd.mono _ _ _)
   | (with_reducible exact LeO.refl _)
   | (with_reducible exact LeO.none _)
   | (with_reducible refine LeO.ite ?_ ?_)
   | (with_reducible refine LeO.bind ?_ (fun _ => ?_))
   | exact impl_gcd.mono _ _ _
   | exact LeO.none _
   | refine LeO.ite ?_ ?_
   | refine LeO.bind ?_ (fun _ => ?_)
set_option maxHeartbeats 8000000 in
set_option maxRecDepth 100000 in
theorem impl_IsSlope.calls (k : Nat) (a0_0 : Int) (a0_1 : Int) (r : Bool) (w : World) (h : impl_IsSlope.f k a0_0 a0_1 = some r) :
  Calls Try.prog 16 #[.agg #[.int .i64 a0_0, .int .i64 a0_1]] w fun e w' => e = .returned (.bool r) ∧ Below w.heap.size w w' := by
 have hu25 := Try.underlying25
 have HB := Az.mk (Below.refl w.heap.size w)
 have H : ((impl_within.f a0_0 (-1000) 1000).bind fun t130 => (if t130 = true then ((impl_within.f a0_1 0 1000).bind fun t131 => (if t131 = true then ((impl_gcd.f k a0_0 a0_1).bind fun t132 => (if t132 = 1 then (if a0_1 > 0 then (some true) else (some (a0_0 == 1))) else (some false))) else (some false))) else (some false))) = some r := h
 clear h
 replace H := Option.bind_eq_some_iff.mp H
 obtain ⟨t130, A20, H⟩ := H
 replace H : (if t130 = true then ((impl_within.f a0_1 0 1000).bind fun t131 => (if t131 = true then ((impl_gcd.f k a0_0 a0_1).bind fun t132 => (if t132 = 1 then (if a0_1 > 0 then (some true) else (some (a0_0 == 1))) else (some false))) else (some false))) else (some false)) = some r := H
 have A2 := Az.mk A20
 clear A20
 by_cases c3 : t130 = true
 ·subst c3
  have H1 : ((impl_within.f a0_1 0 1000).bind fun t131 => (if t131 = true then ((impl_gcd.f k a0_0 a0_1).bind fun t132 => (if t132 = 1 then (if a0_1 > 0 then (some true) else (some (a0_0 == 1))) else (some false))) else (some false))) = some r := by rw [if_pos rfl] at H; exact H
  clear H
  have H := H1
  clear H1
  replace H := Option.bind_eq_some_iff.mp H
  obtain ⟨t131, A40, H⟩ := H
  replace H : (if t131 = true then ((impl_gcd.f k a0_0 a0_1).bind fun t132 => (if t132 = 1 then (if a0_1 > 0 then (some true) else (some (a0_0 == 1))) else (some false))) else (some false)) = some r := H
  have A4 := Az.mk A40
  clear A40
  by_cases c5 : t131 = true
  ·subst c5
   have H1 : ((impl_gcd.f k a0_0 a0_1).bind fun t132 => (if t132 = 1 then (if a0_1 > 0 then (some true) else (some (a0_0 == 1))) else (some false))) = some r := by rw [if_pos rfl] at H; exact H
   clear H
   have H := H1
   clear H1
   replace H := Option.bind_eq_some_iff.mp H
   obtain ⟨t132, A60, H⟩ := H
   replace H : (if t132 = 1 then (if a0_1 > 0 then (some true) else (some (a0_0 == 1))) else (some false)) = some r := H
   have A6 := Az.mk A60
   clear A60
   by_cases c7 : t132 = 1
   ·rw [if_pos c7] at H
    have c7b0 : (t132 == 1) = true := beq_iff_eq.mpr c7
    have c7b1 : (t132 != 1) = false := bne_eq_false_iff_eq.mpr c7
    clear c7
    by_cases c8 : a0_1 > 0
    ·rw [if_pos c8] at H
     have c8b0 : decide (0 < a0_1) = true := decide_eq_true c8
     clear c8
     obtain rfl := Option.some.inj H
     go_enter Try.func16, Try.ntmps16
     go_wp2_with (first | ((with_reducible refine gtD (N := 1) rfl ?_); refine bxE ?hg (N := 1) ?hd (cs := #[.int .i64 a0_0, .int .i64 a0_1]) (t := 25) ?hr ?_; (case hd => rfl); (case hg => rfl); (case hr => first | (go_simp; done) | (go_simp; rfl)); intro gb129 hg w9 hbox hb; have n0_ := Az.mk (bwT (by repeat (first | (with_reducible first | exact HB.out | apply bwA | apply pbN | apply bwD) | exact HB.out)) hb); have n1_ := Az.mk (hbox); have n2_ := Az.mk ((by rw [hg]; exact (bwZ (by repeat (first | (with_reducible first | exact HB.out | apply bwA | apply pbN | apply bwD) | exact HB.out))) : w.heap.size ≤ gb129)); have n3_ := Az.mk ((by rw [hg]; exact (bwZ (by repeat (first | (with_reducible first | exact HB.out | apply bwA | apply pbN | apply bwD) | exact HB.out))) : w.heap.size ≤ gb129)); clear HB; have HB := n0_; have BK129 := n1_; have GW129 := n2_; have GE129 := n3_; clear n0_ n1_ n2_ n3_; clear hb hbox hg; have hcz10_0 : w9.cell? ⟨gb129, 0, none⟩ = some (.int .i64 a0_0) := (bkC BK129.out 0).trans rfl; have hcz10_1 : w9.cell? ⟨gb129, 1, none⟩ = some (.int .i64 a0_1) := (bkC BK129.out 1).trans rfl; have hfz10_0 := bkF BK129.out 0; have hfz10_1 := bkF BK129.out 1) | ((with_reducible refine gtC (f := 29) rfl ?_); refine goesL_ (some 5) rfl rfl Try.func29 (by kernel_rfl) rfl #[.int .i64 a0_0, .int .i64 (-1000), .int .i64 1000] rfl (by (try simp only [List.map_toArray, List.map_cons, List.map_nil]); first | done | rfl | (simp only [List.length_drop, List.length_take]; rfl)) ?_; (with_reducible refine (impl_within.calls a0_0 (-1000) 1000 true _ A2.out).mono ?_); rintro e w' ⟨rfl, ⟨nd, rfl⟩⟩; refine ⟨_, rfl, ?_⟩) | (go_at_call 29; (with_reducible refine (impl_within.calls a0_1 0 1000 true _ A4.out).mono ?_); rintro e w' ⟨rfl, ⟨nd, rfl⟩⟩) | (go_at_call 30; (with_reducible refine (impl_gcd.calls k a0_0 a0_1 t132 _ A6.out).mono ?_); rintro e w11 ⟨rfl, hb⟩; have n0_ := Az.mk (bkB (g := gb129) (o := .cells #[.int .i64 a0_0, .int .i64 a0_1] 25 (0, 0)) (by (with_reducible repeat (first | refine bkN ?_ _ | refine bkD ?_ | refine bkA ?_ _)); exact BK129.out) hb); have n1_ := Az.mk (bwT (by repeat (first | (with_reducible first | exact HB.out | apply bwA | apply pbN | apply bwD | refine bwS ?_ GE129.out) | exact HB.out)) hb); clear BK129; clear HB; have BK129 := n0_; have HB := n1_; clear n0_ n1_; (try clear hb); (try clear hb2); (try clear hk); (try clear hi); have hcz12_0 : w11.cell? ⟨gb129, 0, none⟩ = some (.int .i64 a0_0) := (bkC BK129.out 0).trans rfl; have hcz12_1 : w11.cell? ⟨gb129, 1, none⟩ = some (.int .i64 a0_1) := (bkC BK129.out 1).trans rfl; have hfz12_0 := bkF BK129.out 0; have hfz12_1 := bkF BK129.out 1))
     go_ret
     exact ⟨by first | rfl | (simp [eWn, eWs] <;> rfl) | (simp [*, eWn, eWs] <;> rfl), by repeat (first | (with_reducible first | exact HB.out | apply bwA | apply pbN | apply bwD | refine bwS ?_ GE129.out) | exact HB.out)⟩
    ·rw [if_neg c8] at H
     have c8b0 : decide (0 < a0_1) = false := decide_eq_false c8
     clear c8
     obtain rfl := Option.some.inj H
     go_enter Try.func16, Try.ntmps16
     go_wp2_with (first | ((with_reducible refine gtD (N := 1) rfl ?_); refine bxE ?hg (N := 1) ?hd (cs := #[.int .i64 a0_0, .int .i64 a0_1]) (t := 25) ?hr ?_; (case hd => rfl); (case hg => rfl); (case hr => first | (go_simp; done) | (go_simp; rfl)); intro gb129 hg w13 hbox hb; have n0_ := Az.mk (bwT (by repeat (first | (with_reducible first | exact HB.out | apply bwA | apply pbN | apply bwD) | exact HB.out)) hb); have n1_ := Az.mk (hbox); have n2_ := Az.mk ((by rw [hg]; exact (bwZ (by repeat (first | (with_reducible first | exact HB.out | apply bwA | apply pbN | apply bwD) | exact HB.out))) : w.heap.size ≤ gb129)); have n3_ := Az.mk ((by rw [hg]; exact (bwZ (by repeat (first | (with_reducible first | exact HB.out | apply bwA | apply pbN | apply bwD) | exact HB.out))) : w.heap.size ≤ gb129)); clear HB; have HB := n0_; have BK129 := n1_; have GW129 := n2_; have GE129 := n3_; clear n0_ n1_ n2_ n3_; clear hb hbox hg; have hcz14_0 : w13.cell? ⟨gb129, 0, none⟩ = some (.int .i64 a0_0) := (bkC BK129.out 0).trans rfl; have hcz14_1 : w13.cell? ⟨gb129, 1, none⟩ = some (.int .i64 a0_1) := (bkC BK129.out 1).trans rfl; have hfz14_0 := bkF BK129.out 0; have hfz14_1 := bkF BK129.out 1) | ((with_reducible refine gtC (f := 29) rfl ?_); refine goesL_ (some 5) rfl rfl Try.func29 (by kernel_rfl) rfl #[.int .i64 a0_0, .int .i64 (-1000), .int .i64 1000] rfl (by (try simp only [List.map_toArray, List.map_cons, List.map_nil]); first | done | rfl | (simp only [List.length_drop, List.length_take]; rfl)) ?_; (with_reducible refine (impl_within.calls a0_0 (-1000) 1000 true _ A2.out).mono ?_); rintro e w' ⟨rfl, ⟨nd, rfl⟩⟩; refine ⟨_, rfl, ?_⟩) | (go_at_call 29; (with_reducible refine (impl_within.calls a0_1 0 1000 true _ A4.out).mono ?_); rintro e w' ⟨rfl, ⟨nd, rfl⟩⟩) | (go_at_call 30; (with_reducible refine (impl_gcd.calls k a0_0 a0_1 t132 _ A6.out).mono ?_); rintro e w15 ⟨rfl, hb⟩; have n0_ := Az.mk (bkB (g := gb129) (o := .cells #[.int .i64 a0_0, .int .i64 a0_1] 25 (0, 0)) (by (with_reducible repeat (first | refine bkN ?_ _ | refine bkD ?_ | refine bkA ?_ _)); exact BK129.out) hb); have n1_ := Az.mk (bwT (by repeat (first | (with_reducible first | exact HB.out | apply bwA | apply pbN | apply bwD | refine bwS ?_ GE129.out) | exact HB.out)) hb); clear BK129; clear HB; have BK129 := n0_; have HB := n1_; clear n0_ n1_; (try clear hb); (try clear hb2); (try clear hk); (try clear hi); have hcz16_0 : w15.cell? ⟨gb129, 0, none⟩ = some (.int .i64 a0_0) := (bkC BK129.out 0).trans rfl; have hcz16_1 : w15.cell? ⟨gb129, 1, none⟩ = some (.int .i64 a0_1) := (bkC BK129.out 1).trans rfl; have hfz16_0 := bkF BK129.out 0; have hfz16_1 := bkF BK129.out 1))
     go_ret
     exact ⟨by first | rfl | (simp [eWn, eWs] <;> rfl) | (simp [*, eWn, eWs] <;> rfl), by repeat (first | (with_reducible first | exact HB.out | apply bwA | apply pbN | apply bwD | refine bwS ?_ GE129.out) | exact HB.out)⟩
   ·rw [if_neg c7] at H
    have c7b0 : (t132 == 1) = false := beq_eq_false_iff_ne.mpr c7
    have c7b1 : (t132 != 1) = true := bne_iff_ne.mpr c7
    obtain rfl := Option.some.inj H
    go_enter Try.func16, Try.ntmps16
    go_wp2_with (first | ((with_reducible refine gtD (N := 1) rfl ?_); refine bxE ?hg (N := 1) ?hd (cs := #[.int .i64 a0_0, .int .i64 a0_1]) (t := 25) ?hr ?_; (case hd => rfl); (case hg => rfl); (case hr => first | (go_simp; done) | (go_simp; rfl)); intro gb129 hg w17 hbox hb; have n0_ := Az.mk (bwT (by repeat (first | (with_reducible first | exact HB.out | apply bwA | apply pbN | apply bwD) | exact HB.out)) hb); have n1_ := Az.mk (hbox); have n2_ := Az.mk ((by rw [hg]; exact (bwZ (by repeat (first | (with_reducible first | exact HB.out | apply bwA | apply pbN | apply bwD) | exact HB.out))) : w.heap.size ≤ gb129)); have n3_ := Az.mk ((by rw [hg]; exact (bwZ (by repeat (first | (with_reducible first | exact HB.out | apply bwA | apply pbN | apply bwD) | exact HB.out))) : w.heap.size ≤ gb129)); clear HB; have HB := n0_; have BK129 := n1_; have GW129 := n2_; have GE129 := n3_; clear n0_ n1_ n2_ n3_; clear hb hbox hg; have hcz18_0 : w17.cell? ⟨gb129, 0, none⟩ = some (.int .i64 a0_0) := (bkC BK129.out 0).trans rfl; have hcz18_1 : w17.cell? ⟨gb129, 1, none⟩ = some (.int .i64 a0_1) := (bkC BK129.out 1).trans rfl; have hfz18_0 := bkF BK129.out 0; have hfz18_1 := bkF BK129.out 1) | ((with_reducible refine gtC (f := 29) rfl ?_); refine goesL_ (some 5) rfl rfl Try.func29 (by kernel_rfl) rfl #[.int .i64 a0_0, .int .i64 (-1000), .int .i64 1000] rfl (by (try simp only [List.map_toArray, List.map_cons, List.map_nil]); first | done | rfl | (simp only [List.length_drop, List.length_take]; rfl)) ?_; (with_reducible refine (impl_within.calls a0_0 (-1000) 1000 true _ A2.out).mono ?_); rintro e w' ⟨rfl, ⟨nd, rfl⟩⟩; refine ⟨_, rfl, ?_⟩) | (go_at_call 29; (with_reducible refine (impl_within.calls a0_1 0 1000 true _ A4.out).mono ?_); rintro e w' ⟨rfl, ⟨nd, rfl⟩⟩) | (go_at_call 30; (with_reducible refine (impl_gcd.calls k a0_0 a0_1 t132 _ A6.out).mono ?_); rintro e w19 ⟨rfl, hb⟩; have n0_ := Az.mk (bkB (g := gb129) (o := .cells #[.int .i64 a0_0, .int .i64 a0_1] 25 (0, 0)) (by (with_reducible repeat (first | refine bkN ?_ _ | refine bkD ?_ | refine bkA ?_ _)); exact BK129.out) hb); have n1_ := Az.mk (bwT (by repeat (first | (with_reducible first | exact HB.out | apply bwA | apply pbN | apply bwD | refine bwS ?_ GE129.out) | exact HB.out)) hb); clear BK129; clear HB; have BK129 := n0_; have HB := n1_; clear n0_ n1_; (try clear hb); (try clear hb2); (try clear hk); (try clear hi)))
    go_ret
    exact ⟨by first | rfl | (simp [eWn, eWs] <;> rfl) | (simp [*, eWn, eWs] <;> rfl), by repeat (first | (with_reducible first | exact HB.out | apply bwA | apply pbN | apply bwD | refine bwS ?_ GE129.out) | exact HB.out)⟩
  ·replace c5 := Bool.eq_false_iff.mpr c5
   subst c5
   have H1 : (some false) = some r := by rw [if_neg (show ¬ (false = true) by decide)] at H; exact H
   clear H
   have H := H1
   clear H1
   obtain rfl := Option.some.inj H
   go_enter Try.func16, Try.ntmps16
   go_wp2_with (first | ((with_reducible refine gtD (N := 1) rfl ?_); refine bxE ?hg (N := 1) ?hd (cs := #[.int .i64 a0_0, .int .i64 a0_1]) (t := 25) ?hr ?_; (case hd => rfl); (case hg => rfl); (case hr => first | (go_simp; done) | (go_simp; rfl)); intro gb129 hg w20 hbox hb; have n0_ := Az.mk (bwT (by repeat (first | (with_reducible first | exact HB.out | apply bwA | apply pbN | apply bwD) | exact HB.out)) hb); have n1_ := Az.mk (hbox); have n2_ := Az.mk ((by rw [hg]; exact (bwZ (by repeat (first | (with_reducible first | exact HB.out | apply bwA | apply pbN | apply bwD) | exact HB.out))) : w.heap.size ≤ gb129)); have n3_ := Az.mk ((by rw [hg]; exact (bwZ (by repeat (first | (with_reducible first | exact HB.out | apply bwA | apply pbN | apply bwD) | exact HB.out))) : w.heap.size ≤ gb129)); clear HB; have HB := n0_; have BK129 := n1_; have GW129 := n2_; have GE129 := n3_; clear n0_ n1_ n2_ n3_; clear hb hbox hg; have hcz21_0 : w20.cell? ⟨gb129, 0, none⟩ = some (.int .i64 a0_0) := (bkC BK129.out 0).trans rfl; have hcz21_1 : w20.cell? ⟨gb129, 1, none⟩ = some (.int .i64 a0_1) := (bkC BK129.out 1).trans rfl; have hfz21_0 := bkF BK129.out 0; have hfz21_1 := bkF BK129.out 1) | ((with_reducible refine gtC (f := 29) rfl ?_); refine goesL_ (some 5) rfl rfl Try.func29 (by kernel_rfl) rfl #[.int .i64 a0_0, .int .i64 (-1000), .int .i64 1000] rfl (by (try simp only [List.map_toArray, List.map_cons, List.map_nil]); first | done | rfl | (simp only [List.length_drop, List.length_take]; rfl)) ?_; (with_reducible refine (impl_within.calls a0_0 (-1000) 1000 true _ A2.out).mono ?_); rintro e w' ⟨rfl, ⟨nd, rfl⟩⟩; refine ⟨_, rfl, ?_⟩) | (go_at_call 29; (with_reducible refine (impl_within.calls a0_1 0 1000 false _ A4.out).mono ?_); rintro e w' ⟨rfl, ⟨nd, rfl⟩⟩))
   go_ret
   exact ⟨by first | rfl | (simp [eWn, eWs] <;> rfl) | (simp [*, eWn, eWs] <;> rfl), by repeat (first | (with_reducible first | exact HB.out | apply bwA | apply pbN | apply bwD | refine bwS ?_ GE129.out) | exact HB.out)⟩
 ·replace c3 := Bool.eq_false_iff.mpr c3
  subst c3
  have H1 : (some false) = some r := by rw [if_neg (show ¬ (false = true) by decide)] at H; exact H
  clear H
  have H := H1
  clear H1
  obtain rfl := Option.some.inj H
  go_enter Try.func16, Try.ntmps16
  go_wp2_with (first | ((with_reducible refine gtD (N := 1) rfl ?_); refine bxE ?hg (N := 1) ?hd (cs := #[.int .i64 a0_0, .int .i64 a0_1]) (t := 25) ?hr ?_; (case hd => rfl); (case hg => rfl); (case hr => first | (go_simp; done) | (go_simp; rfl)); intro gb129 hg w22 hbox hb; have n0_ := Az.mk (bwT (by repeat (first | (with_reducible first | exact HB.out | apply bwA | apply pbN | apply bwD) | exact HB.out)) hb); have n1_ := Az.mk (hbox); have n2_ := Az.mk ((by rw [hg]; exact (bwZ (by repeat (first | (with_reducible first | exact HB.out | apply bwA | apply pbN | apply bwD) | exact HB.out))) : w.heap.size ≤ gb129)); have n3_ := Az.mk ((by rw [hg]; exact (bwZ (by repeat (first | (with_reducible first | exact HB.out | apply bwA | apply pbN | apply bwD) | exact HB.out))) : w.heap.size ≤ gb129)); clear HB; have HB := n0_; have BK129 := n1_; have GW129 := n2_; have GE129 := n3_; clear n0_ n1_ n2_ n3_; clear hb hbox hg; have hcz23_0 : w22.cell? ⟨gb129, 0, none⟩ = some (.int .i64 a0_0) := (bkC BK129.out 0).trans rfl; have hcz23_1 : w22.cell? ⟨gb129, 1, none⟩ = some (.int .i64 a0_1) := (bkC BK129.out 1).trans rfl; have hfz23_0 := bkF BK129.out 0; have hfz23_1 := bkF BK129.out 1) | ((with_reducible refine gtC (f := 29) rfl ?_); refine goesL_ (some 5) rfl rfl Try.func29 (by kernel_rfl) rfl #[.int .i64 a0_0, .int .i64 (-1000), .int .i64 1000] rfl (by (try simp only [List.map_toArray, List.map_cons, List.map_nil]); first | done | rfl | (simp only [List.length_drop, List.length_take]; rfl)) ?_; (with_reducible refine (impl_within.calls a0_0 (-1000) 1000 false _ A2.out).mono ?_); rintro e w' ⟨rfl, ⟨nd, rfl⟩⟩; refine ⟨_, rfl, ?_⟩))
  go_ret
  exact ⟨by first | rfl | (simp [eWn, eWs] <;> rfl) | (simp [*, eWn, eWs] <;> rfl), by repeat (first | (with_reducible first | exact HB.out | apply bwA | apply pbN | apply bwD | refine bwS ?_ GE129.out) | exact HB.out)⟩

end Go.Proofs.Ytkblceinidiidaa.P
