-- By this session's driver (wip/tools/mk.py) of the kit's print program, over several statements at once. Not trusted: Lean checks it.
import Derived.Test.YtkblceinidiidaaQPx0
import Derived.Test.YtkblceinidiidaaQPx4
import Derived.Test.YtkblceinidiidaaQPx9
namespace Go.Proofs.Ytkblceinidiidaa.P
open Go.RowKit Go.Proofs.YtkblceinidiidaaW.PrintWords Go.Proofs.YtkblceinidiidaaW.PrintLast Go.Proofs.YtkblceinidiidaaW.PrintMore
attribute [local go_sem] max2_int min2_int max_two min_two max_three min_three max_four min_four   -- for this text's walks alone
set_option linter.unusedVariables false
set_option linter.unusedSimpArgs false

/-! ### impl_StepsBetween: function 9 -/
mutual
def impl_StepsBetween.j0 : Nat → Bool → Int → Int → Int → Int → Option ((List (S25)))
 | 0, _, _, _, _, _ => none
 | k + 1, x20, x216000, x216001, x217000, x217001 => if x20 = true then (some ([] : List (S25))) else ((impl_between.f k x216000 x216001 x217000 x217001).bind fun t223 => (impl_StepsBetween.l0 k (([(⟨x216000, x216001⟩ : S25)] : List (S25))) t223 x217000 x217001 x216000 x216001))
def impl_StepsBetween.l0 : Nat → List (S25) → Int → Int → Int → Int → Int → Option ((List (S25)))
 | 0, _, _, _, _, _, _ => none
 | k + 1, x5, x7, x217000, x217001, x223000, x223001 => if x7 > 0 then ((impl_neighbours.f k x223000 x223001 60).bind fun t225 => (impl_StepsBetween.l1 k x5 x7 x7 t225 (t225.length : Int) 0 x217000 x217001 0 0)) else (some x5)
def impl_StepsBetween.l1 : Nat → List (S25) → Int → Int → List (S25) → Int → Int → Int → Int → Int → Int → Option ((List (S25)))
 | 0, _, _, _, _, _, _, _, _, _, _ => none
 | k + 1, x5, x7, x8, x32, x33, x34, x217000, x217001, x225000, x225001 => if x34 < x33 then (if 0 ≤ x34 then (if x34 < (x32.length : Int) then ((impl_between.f k ((rd_T25 x32 x34).f0) ((rd_T25 x32 x34).f1) x217000 x217001).bind fun t230 => (if t230 < x8 then (impl_StepsBetween.l1 k x5 x7 t230 x32 x33 (wrap64 (x34 + 1)) x217000 x217001 ((rd_T25 x32 x34).f0) ((rd_T25 x32 x34).f1)) else (impl_StepsBetween.l1 k x5 x7 x8 x32 x33 (wrap64 (x34 + 1)) x217000 x217001 x225000 x225001))) else (none)) else (none)) else (if x8 = x7 then (some ([] : List (S25))) else (if x5.length < 8796093022208 then (impl_StepsBetween.l0 k (x5 ++ [(⟨x225000, x225001⟩ : S25)]) x8 x217000 x217001 x225000 x225001) else (none)))
end
def impl_StepsBetween.f (k : Nat) (a0_0 : Int) (a0_1 : Int) (a1_0 : Int) (a1_1 : Int) : Option ((List (S25))) := (impl_isNear.f k a0_0 a0_1).bind fun t217 => (if t217 = true then ((impl_isNear.f k a1_0 a1_1).bind fun t218 => (impl_StepsBetween.j0 k (!t218) a0_0 a0_1 a1_0 a1_1)) else (impl_StepsBetween.j0 k true a0_0 a0_1 a1_0 a1_1))
theorem impl_StepsBetween.mono_l : ∀ k, (∀ y0 y1 y2 y3 y4, LeO (impl_StepsBetween.j0 k y0 y1 y2 y3 y4) (impl_StepsBetween.j0 (k + 1) y0 y1 y2 y3 y4)) ∧ (∀ y0 y1 y2 y3 y4 y5, LeO (impl_StepsBetween.l0 k y0 y1 y2 y3 y4 y5) (impl_StepsBetween.l0 (k + 1) y0 y1 y2 y3 y4 y5)) ∧ (∀ y0 y1 y2 y3 y4 y5 y6 y7 y8 y9, LeO (impl_StepsBetween.l1 k y0 y1 y2 y3 y4 y5 y6 y7 y8 y9) (impl_StepsBetween.l1 (k + 1) y0 y1 y2 y3 y4 y5 y6 y7 y8 y9))
 | 0 => ⟨fun _ _ _ _ _ r h => by simp [impl_StepsBetween.j0] at h, fun _ _ _ _ _ _ r h => by simp [impl_StepsBetween.l0] at h, fun _ _ _ _ _ _ _ _ _ _ r h => by simp [impl_StepsBetween.l1] at h⟩
 | k + 1 => by
  obtain ⟨ih0, ih1, ih2⟩ := impl_StepsBetween.mono_l k
  refine ⟨?_, ?_, ?_⟩
  ·intro y0 y1 y2 y3 y4
   unfold impl_StepsBetween.j0
   repeat' first
   | (with_reducible exact ih0 _ _ _ _ _)
   | (with_reducible exact ih1 _ _ _ _ _ _)
   | (with_reducible exact ih2 _ _ _ _ _ _ _ _ _ _)
   | (with_reducible exact impl_between.mono _ _ _ _ _)
   | (with_reducible exact impl_isNear.mono _ _ _)
   | (with_reducible exact impl_neighbours.mono _ _ _ _)
   | (with_reducible exact LeO.refl _)
   | (with_reducible exact LeO.none _)
   | (with_reducible refine LeO.ite ?_ ?_)
   | (with_reducible refine LeO.bind ?_ (fun _ => ?_))
   | exact ih0 _ _ _ _ _
   | exact ih1 _ _ _ _ _ _
   | exact ih2 _ _ _ _ _ _ _ _ _ _
   | exact impl_between.mono _ _ _ _ _
   | exact impl_isNear.mono _ _ _
   | exact impl_neighbours.mono _ _ _ _
   | exact LeO.none _
   | refine LeO.ite ?_ ?_
   | refine LeO.bind ?_ (fun _ => ?_)
  ·intro y0 y1 y2 y3 y4 y5
   unfold impl_StepsBetween.l0
   repeat' first
   | (with_reducible exact ih0 _ _ _ _ _)
   | (with_reducible exact ih1 _ _ _ _ _ _)
   | (with_reducible exact ih2 _ _ _ _ _ _ _ _ _ _)
   | (with_reducible exact impl_between.mono _ _ _ _ _)
   | (with_reducible exact impl_isNear.mono _ _ _)
   | (with_reducible exact impl_neighbours.mono _ _ _ _)
   | (with_reducible exact LeO.refl _)
   | (with_reducible exact LeO.none _)
   | (with_reducible refine LeO.ite ?_ ?_)
   | (with_reducible refine LeO.bind ?_ (fun _ => ?_))
   | exact ih0 _ _ _ _ _
   | exact ih1 _ _ _ _ _ _
   | exact ih2 _ _ _ _ _ _ _ _ _ _
   | exact impl_between.mono _ _ _ _ _
   | exact impl_isNear.mono _ _ _
   | exact impl_neighbours.mono _ _ _ _
   | exact LeO.none _
   | refine LeO.ite ?_ ?_
   | refine LeO.bind ?_ (fun _ => ?_)
  ·intro y0 y1 y2 y3 y4 y5 y6 y7 y8 y9
   unfold impl_StepsBetween.l1
   repeat' first
   | (with_reducible exact ih0 _ _ _ _ _)
   | (with_reducible exact ih1 _ _ _ _ _ _)
   | (with_reducible exact ih2 _ _ _ _ _ _ _ _ _ _)
   | (with_reducible exact impl_between.mono _ _ _ _ _)
   | (with_reducible exact impl_isNear.mono _ _ _)
   | (with_reducible exact impl_neighbours.mono _ _ _ _)
   | (with_reducible exact LeO.refl _)
   | (with_reducible exact LeO.none _)
   | (with_reducible refine LeO.ite ?_ ?_)
   | (with_reducible refine LeO.bind ?_ (fun _ => ?_))
   | exact ih0 _ _ _ _ _
   | exact ih1 _ _ _ _ _ _
   | exact ih2 _ _ _ _ _ _ _ _ _ _
   | exact impl_between.mono _ _ _ _ _
   | exact impl_isNear.mono _ _ _
   | exact impl_neighbours.mono _ _ _ _
   | exact LeO.none _
   | refine LeO.ite ?_ ?_
   | refine LeO.bind ?_ (fun _ => ?_)
theorem impl_StepsBetween.mono : ∀ a0 a1 a2 a3 k, LeO (impl_StepsBetween.f k a0 a1 a2 a3) (impl_StepsBetween.f (k + 1) a0 a1 a2 a3) := by
 intro a0 a1 a2 a3 k
 obtain ⟨ih0, ih1, ih2⟩ := impl_StepsBetween.mono_l k
 unfold impl_StepsBetween.f
 repeat' first
   | (with_reducible exact ih0 _ _ _ _ _)
   | (with_reducible exact ih1 _ _ _ _ _ _)
   | (with_reducible exact ih2 _ _ _ _ _ _ _ _ _ _)
   | (with_reducible exact impl_between.mono _ _ _ _ _)
   | (with_reducible exact impl_isNear.mono _ _ _)
   | (with_reducible exact impl_neighbours.mono _ _ _ _)
   | (with_reducible exact LeO.refl _)
   | (with_reducible exact LeO.none _)
   | (with_reducible refine LeO.ite ?_ ?_)
   | (with_reducible refine LeO.bind ?_ (fun _ => ?_))
   | exact ih0 _ _ _ _ _
   | exact ih1 _ _ _ _ _ _
   | exact ih2 _ _ _ _ _ _ _ _ _ _
   | exact impl_between.mono _ _ _ _ _
   | exact impl_isNear.mono _ _ _
   | exact impl_neighbours.mono _ _ _ _
   | exact LeO.none _
   | refine LeO.ite ?_ ?_
   | refine LeO.bind ?_ (fun _ => ?_)
set_option maxHeartbeats 8000000 in
set_option maxRecDepth 100000 in
theorem impl_StepsBetween.calls (k : Nat) (a0_0 : Int) (a0_1 : Int) (a1_0 : Int) (a1_1 : Int) (r : List (S25)) (w : World) (h : impl_StepsBetween.f k a0_0 a0_1 a1_0 a1_1 = some r) :
  Calls Try.prog 9 #[.agg #[.int .i64 a0_0, .int .i64 a0_1], .agg #[.int .i64 a1_0, .int .i64 a1_1]] w fun e w' => ∃ v0_ : Value, e = .returned (v0_) ∧ Kd.R k25 25 w' w.heap.size (fun _ => True) v0_ r ∧ Below w.heap.size w w' := by
 have hu25 := Try.underlying25
 have HB := Az.mk (Below.refl w.heap.size w)
 have H : ((impl_isNear.f k a0_0 a0_1).bind fun t217 => (if t217 = true then ((impl_isNear.f k a1_0 a1_1).bind fun t218 => (impl_StepsBetween.j0 k (!t218) a0_0 a0_1 a1_0 a1_1)) else (impl_StepsBetween.j0 k true a0_0 a0_1 a1_0 a1_1))) = some r := h
 clear h
 have HC3 := Az.mk H
 clear H
 go_enter Try.func9, Try.ntmps9
 go_upto_region 1 with (first | ((with_reducible refine gtD (N := 2) rfl ?_); refine bxE ?hg (N := 2) ?hd (cs := #[.int .i64 a0_0, .int .i64 a0_1]) (t := 25) ?hr ?_; (case hd => rfl); (case hg => rfl); (case hr => first | (go_simp; done) | (go_simp; rfl)); intro gb215 hg w4 hbox hb; have n0_ := Az.mk (bwT (by repeat (first | (with_reducible first | exact HB.out | apply bwA | apply pbN | apply bwD) | exact HB.out)) hb); have n1_ := Az.mk (hbox); have n2_ := Az.mk ((by rw [hg]; exact (bwZ (by repeat (first | (with_reducible first | exact HB.out | apply bwA | apply pbN | apply bwD) | exact HB.out))) : w.heap.size ≤ gb215)); have n3_ := Az.mk ((by rw [hg]; exact (bwZ (by repeat (first | (with_reducible first | exact HB.out | apply bwA | apply pbN | apply bwD) | exact HB.out))) : w.heap.size ≤ gb215)); clear HB; have HB := n0_; have BK215 := n1_; have GW215 := n2_; have GE215 := n3_; clear n0_ n1_ n2_ n3_; clear hb hbox hg) | ((with_reducible refine gtD (N := 3) rfl ?_); refine bxE ?hg (N := 3) ?hd (cs := #[.int .i64 a1_0, .int .i64 a1_1]) (t := 25) ?hr ?_; (case hd => rfl); (case hg => rfl); (case hr => first | (go_simp; done) | (go_simp; rfl)); intro gb216 hg w5 hbox hb; have n0_ := Az.mk (bkB (g := gb215) (o := .cells #[.int .i64 a0_0, .int .i64 a0_1] 25 (0, 0)) (by (with_reducible repeat (first | refine bkN ?_ _ | refine bkD ?_ | refine bkA ?_ _)); exact BK215.out) hb); have n1_ := Az.mk (bwT (by repeat (first | (with_reducible first | exact HB.out | apply bwA | apply pbN | apply bwD | refine bwS ?_ GE215.out) | exact HB.out)) hb); have n2_ := Az.mk (hbox); have n3_ := Az.mk ((by rw [hg]; exact (bwZ (by repeat (first | (with_reducible first | exact HB.out | apply bwA | apply pbN | apply bwD | refine bwS ?_ GE215.out) | exact HB.out))) : w.heap.size ≤ gb216)); have n4_ := Az.mk ((by rw [hg]; exact (bwZ (by repeat (first | (with_reducible first | exact HB.out | apply bwA | apply pbN | apply bwD | refine bwS ?_ GE215.out) | exact HB.out))) : w.heap.size ≤ gb216)); have n5_ := Az.mk ((by rw [hg]; exact Nat.ne_of_lt (blk_lt (g := gb215) (o := .cells #[.int .i64 a0_0, .int .i64 a0_1] 25 (0, 0)) (by (with_reducible repeat (first | refine bkN ?_ _ | refine bkD ?_ | refine bkA ?_ _)); exact BK215.out)) : gb215 ≠ gb216)); have n6_ := Az.mk ((by rw [hg]; exact Nat.ne_of_gt (blk_lt (g := gb215) (o := .cells #[.int .i64 a0_0, .int .i64 a0_1] 25 (0, 0)) (by (with_reducible repeat (first | refine bkN ?_ _ | refine bkD ?_ | refine bkA ?_ _)); exact BK215.out)) : gb216 ≠ gb215)); clear BK215; clear HB; have BK215 := n0_; have HB := n1_; have BK216 := n2_; have GW216 := n3_; have GE216 := n4_; have NB215_216 := n5_; have NB216_215 := n6_; clear n0_ n1_ n2_ n3_ n4_ n5_ n6_; clear hb hbox hg))
 (try simp only [Act.put, List.setIfInBounds_toArray, List.set_cons_zero, List.set_cons_succ])
 go_cut [20] (fun v20 wc => ∃ (kq : Nat) (x20_2 : Bool), v20 = .bool x20_2 ∧ Az (impl_StepsBetween.j0 kq x20_2 a0_0 a0_1 a1_0 a1_1 = some r) ∧ Az (kq ≤ k) ∧ Az (wc.heap[gb215]? = some (.cells #[.int .i64 a0_0, .int .i64 a0_1] 25 (0, 0))) ∧ Az (wc.heap[gb216]? = some (.cells #[.int .i64 a1_0, .int .i64 a1_1] 25 (0, 0))) ∧ Az (Below w.heap.size w wc))
 case first =>
  have H := HC3.out
  clear HC3
  replace H := Option.bind_eq_some_iff.mp H
  obtain ⟨t217, A60, H⟩ := H
  replace H : (if t217 = true then ((impl_isNear.f k a1_0 a1_1).bind fun t218 => (impl_StepsBetween.j0 k (!t218) a0_0 a0_1 a1_0 a1_1)) else (impl_StepsBetween.j0 k true a0_0 a0_1 a1_0 a1_1)) = some r := H
  have A6 := Az.mk A60
  clear A60
  by_cases c7 : t217 = true
  ·subst c7
   have H1 : ((impl_isNear.f k a1_0 a1_1).bind fun t218 => (impl_StepsBetween.j0 k (!t218) a0_0 a0_1 a1_0 a1_1)) = some r := by rw [if_pos rfl] at H; exact H
   clear H
   have H := H1
   clear H1
   replace H := Option.bind_eq_some_iff.mp H
   obtain ⟨t218, A80, H⟩ := H
   replace H : (impl_StepsBetween.j0 k (!t218) a0_0 a0_1 a1_0 a1_1) = some r := H
   have A8 := Az.mk A80
   clear A80
   have H' := Az.mk H
   clear H
   have hnb9 := NB215_216.out
   have hnc9 := NB216_215.out
   have hcz10_0 : w5.cell? ⟨gb215, 0, none⟩ = some (.int .i64 a0_0) := (bkC BK215.out 0).trans rfl
   have hcz10_1 : w5.cell? ⟨gb215, 1, none⟩ = some (.int .i64 a0_1) := (bkC BK215.out 1).trans rfl
   have hfz10_0 := bkF BK215.out 0
   have hfz10_1 := bkF BK215.out 1
   go_wp2_with (first | ((with_reducible refine gtC (f := 21) rfl ?_); refine goesL_ (some 14) rfl rfl Try.func21 (by kernel_rfl) rfl #[.agg #[.int .i64 a0_0, .int .i64 a0_1]] rfl (by (try simp only [List.map_toArray, List.map_cons, List.map_nil]); first | done | rfl | (simp only [List.length_drop, List.length_take]; rfl)) ?_; (with_reducible refine (impl_isNear.calls k a0_0 a0_1 true _ A6.out).mono ?_); rintro e w11 ⟨rfl, hb⟩; refine ⟨_, rfl, ?_⟩; have n0_ := Az.mk (bkB (g := gb215) (o := .cells #[.int .i64 a0_0, .int .i64 a0_1] 25 (0, 0)) (by (with_reducible repeat (first | refine bkN ?_ _ | refine bkD ?_ | refine bkA ?_ _)); exact BK215.out) hb); have n1_ := Az.mk (bkB (g := gb216) (o := .cells #[.int .i64 a1_0, .int .i64 a1_1] 25 (0, 0)) (by (with_reducible repeat (first | refine bkN ?_ _ | refine bkD ?_ | refine bkA ?_ _)); exact BK216.out) hb); have n2_ := Az.mk (bwT (by repeat (first | (with_reducible first | exact HB.out | apply bwA | apply pbN | apply bwD | refine bwS ?_ GE215.out | refine bwS ?_ GE216.out) | exact HB.out)) hb); clear BK215; clear BK216; clear HB; have BK215 := n0_; have BK216 := n1_; have HB := n2_; clear n0_ n1_ n2_; (try clear hb); (try clear hb2); (try clear hk); (try clear hi); have hcz12_0 : w11.cell? ⟨gb216, 0, none⟩ = some (.int .i64 a1_0) := (bkC BK216.out 0).trans rfl; have hcz12_1 : w11.cell? ⟨gb216, 1, none⟩ = some (.int .i64 a1_1) := (bkC BK216.out 1).trans rfl; have hfz12_0 := bkF BK216.out 0; have hfz12_1 := bkF BK216.out 1) | (go_at_call 21; (with_reducible refine (impl_isNear.calls k a1_0 a1_1 t218 _ A8.out).mono ?_); rintro e w13 ⟨rfl, hb⟩; have n0_ := Az.mk (bkB (g := gb215) (o := .cells #[.int .i64 a0_0, .int .i64 a0_1] 25 (0, 0)) (by (with_reducible repeat (first | refine bkN ?_ _ | refine bkD ?_ | refine bkA ?_ _)); exact BK215.out) hb); have n1_ := Az.mk (bkB (g := gb216) (o := .cells #[.int .i64 a1_0, .int .i64 a1_1] 25 (0, 0)) (by (with_reducible repeat (first | refine bkN ?_ _ | refine bkD ?_ | refine bkA ?_ _)); exact BK216.out) hb); have n2_ := Az.mk (bwT (by repeat (first | (with_reducible first | exact HB.out | apply bwA | apply pbN | apply bwD | refine bwS ?_ GE215.out | refine bwS ?_ GE216.out) | exact HB.out)) hb); clear BK215; clear BK216; clear HB; have BK215 := n0_; have BK216 := n1_; have HB := n2_; clear n0_ n1_ n2_; (try clear hb); (try clear hb2); (try clear hk); (try clear hi)))
   go_meet
   case rel => exact ⟨_, (!t218), (by first | rfl | (simp; done) | (simp [*]; done)), H', ⟨by first | omega | exact Nat.le_refl _⟩, ⟨by (with_reducible repeat (first | refine bkN ?_ _ | refine bkD ?_ | refine bkA ?_ _)); exact BK215.out⟩, ⟨by (with_reducible repeat (first | refine bkN ?_ _ | refine bkD ?_ | refine bkA ?_ _)); exact BK216.out⟩, ⟨by repeat (first | (with_reducible first | exact HB.out | apply bwA | apply pbN | apply bwD | refine bwS ?_ GE215.out | refine bwS ?_ GE216.out) | exact HB.out)⟩⟩
  ·replace c7 := Bool.eq_false_iff.mpr c7
   subst c7
   have H1 : (impl_StepsBetween.j0 k true a0_0 a0_1 a1_0 a1_1) = some r := by rw [if_neg (show ¬ (false = true) by decide)] at H; exact H
   clear H
   have H := H1
   clear H1
   have H' := Az.mk H
   clear H
   have hnb14 := NB215_216.out
   have hnc14 := NB216_215.out
   have hcz15_0 : w5.cell? ⟨gb215, 0, none⟩ = some (.int .i64 a0_0) := (bkC BK215.out 0).trans rfl
   have hcz15_1 : w5.cell? ⟨gb215, 1, none⟩ = some (.int .i64 a0_1) := (bkC BK215.out 1).trans rfl
   have hfz15_0 := bkF BK215.out 0
   have hfz15_1 := bkF BK215.out 1
   go_wp2_with (first | ((with_reducible refine gtC (f := 21) rfl ?_); refine goesL_ (some 14) rfl rfl Try.func21 (by kernel_rfl) rfl #[.agg #[.int .i64 a0_0, .int .i64 a0_1]] rfl (by (try simp only [List.map_toArray, List.map_cons, List.map_nil]); first | done | rfl | (simp only [List.length_drop, List.length_take]; rfl)) ?_; (with_reducible refine (impl_isNear.calls k a0_0 a0_1 false _ A6.out).mono ?_); rintro e w16 ⟨rfl, hb⟩; refine ⟨_, rfl, ?_⟩; have n0_ := Az.mk (bkB (g := gb215) (o := .cells #[.int .i64 a0_0, .int .i64 a0_1] 25 (0, 0)) (by (with_reducible repeat (first | refine bkN ?_ _ | refine bkD ?_ | refine bkA ?_ _)); exact BK215.out) hb); have n1_ := Az.mk (bkB (g := gb216) (o := .cells #[.int .i64 a1_0, .int .i64 a1_1] 25 (0, 0)) (by (with_reducible repeat (first | refine bkN ?_ _ | refine bkD ?_ | refine bkA ?_ _)); exact BK216.out) hb); have n2_ := Az.mk (bwT (by repeat (first | (with_reducible first | exact HB.out | apply bwA | apply pbN | apply bwD | refine bwS ?_ GE215.out | refine bwS ?_ GE216.out) | exact HB.out)) hb); clear BK215; clear BK216; clear HB; have BK215 := n0_; have BK216 := n1_; have HB := n2_; clear n0_ n1_ n2_; (try clear hb); (try clear hb2); (try clear hk); (try clear hi)))
   go_meet
   case rel => exact ⟨_, (true), (by first | rfl | (simp; done) | (simp [*]; done)), H', ⟨by first | omega | exact Nat.le_refl _⟩, ⟨by (with_reducible repeat (first | refine bkN ?_ _ | refine bkD ?_ | refine bkA ?_ _)); exact BK215.out⟩, ⟨by (with_reducible repeat (first | refine bkN ?_ _ | refine bkD ?_ | refine bkA ?_ _)); exact BK216.out⟩, ⟨by repeat (first | (with_reducible first | exact HB.out | apply bwA | apply pbN | apply bwD | refine bwS ?_ GE215.out | refine bwS ?_ GE216.out) | exact HB.out)⟩⟩
 case rest =>
  clear HC3
  try clear c1
  try clear c2
  try clear p2
  try clear c7
  try clear c9
  try clear c14
  try clear hcz10_0
  try clear hcz10_1
  try clear hcz12_0
  try clear hcz12_1
  try clear hcz15_0
  try clear hcz15_1
  try clear hfz10_0
  try clear hfz10_1
  try clear hfz12_0
  try clear hfz12_1
  try clear hfz15_0
  try clear hfz15_1
  obtain ⟨kq, x20_2, rfl, HA, HJ2, BK215, BK216, HB⟩ := hcut
  cases kq with
  | zero => exact absurd HA.out (by simp [impl_StepsBetween.j0])
  | succ kj2 =>
   have H := HA.out
   clear HA
   simp only [impl_StepsBetween.j0] at H
   by_cases c17 : x20_2 = true
   ·subst c17
    have H1 : (some ([] : List (S25))) = some r := by rw [if_pos rfl] at H; exact H
    clear H
    have H := H1
    clear H1
    obtain rfl := Option.some.inj H
    go_wp2
    go_ret
    exact ⟨_, by first | rfl | (simp [eWn, eWs] <;> rfl) | (simp [*, eWn, eWs] <;> rfl), by first | exact Kd.R_nil _ _ _ _ _ | exact Kd.N_nil _ _ _ _ _ | exact Kd.V_nil _ _ _ _ _ | exact Kd.Q_nil _ _ _ _ _ | exact Kd.S_nil _ _ _ _ _, by repeat (first | (with_reducible first | exact HB.out | apply bwA | apply pbN | apply bwD | refine bwS ?_ GE215.out | refine bwS ?_ GE216.out) | exact HB.out)⟩
   ·replace c17 := Bool.eq_false_iff.mpr c17
    subst c17
    have H1 : ((impl_between.f kj2 a0_0 a0_1 a1_0 a1_1).bind fun t223 => (impl_StepsBetween.l0 kj2 (([(⟨a0_0, a0_1⟩ : S25)] : List (S25))) t223 a1_0 a1_1 a0_0 a0_1)) = some r := by rw [if_neg (show ¬ (false = true) by decide)] at H; exact H
    clear H
    have H := H1
    clear H1
    obtain ⟨y219, hy219⟩ : ∃ y_ : List (S25), y_ = (([(⟨a0_0, a0_1⟩ : S25)] : List (S25))) := ⟨_, rfl⟩
    replace H : ((impl_between.f kj2 a0_0 a0_1 a1_0 a1_1).bind fun t223 => (impl_StepsBetween.l0 kj2 y219 t223 a1_0 a1_1 a0_0 a0_1)) = some r := by first | (rw [hy219]; with_reducible exact H) | (have H2_ := (Option.bind_some _ _).symm.trans H; rw [hy219]; with_reducible exact H2_) | (have H2_ := (Option.bind_some _ _).symm.trans H; with_reducible exact H2_) | with_reducible exact H | (rw [hy219]; exact H) | exact H
    have Ny219 := Az.mk hy219
    clear hy219
    replace H := Option.bind_eq_some_iff.mp H
    obtain ⟨t223, A180, H⟩ := H
    replace H : (impl_StepsBetween.l0 kj2 y219 t223 a1_0 a1_1 a0_0 a0_1) = some r := H
    have A18 := Az.mk A180
    clear A180
    have H' := Az.mk H
    clear H
    try go_wp2
    have n0_ := Az.mk (bkD BK215.out)
    have n1_ := Az.mk (bkD BK216.out)
    have n2_ := Az.mk (bwD HB.out)
    clear BK215
    clear BK216
    clear HB
    have BK215 := n0_
    have BK216 := n1_
    have HB := n2_
    clear n0_ n1_ n2_
    refine start_ (n := 6) (S := fun w' => w'.cell? ⟨gb215, 0, none⟩ = some (.int .i64 a0_0) ∧ w'.cell? ⟨gb215, 1, none⟩ = some (.int .i64 a0_1)) (ds := []) #[false, false, false, false, false, false] (by kernel_rfl) rfl rfl ⟨(bkC BK215.out 0).trans rfl, (bkC BK215.out 1).trans rfl⟩ (fun hHeld => ?_)
    generalize wc.drew = w19 at BK215 BK216 HB hHeld ⊢
    refine take_ (i := 0) (N := some 21) (v := ?_) (a' := ?_) #[true, false, false, false, false, false] rfl rfl (by kernel_rfl) (fun _ _ _ h => h) (Or.inl ⟨by rfl, ?_⟩) hHeld ?_ ?_
    rotate_left
    ·rintro w' ⟨s0, s1⟩
     go_simp
     with_reducible rfl
    rotate_left
    ·simp only [Act.put, List.setIfInBounds_toArray, List.set_cons_zero, List.set_cons_succ, i64_w, i32_w]
     rfl
    refine take_ (i := 2) (N := some 23) (v := ?_) (a' := ?_) #[true, false, true, false, false, false] rfl rfl (by kernel_rfl) (fun _ _ _ h => h) (Or.inl ⟨by rfl, ?_⟩) hHeld ?_ ?_
    rotate_left
    ·rintro w' ⟨s0, s1⟩
     go_simp
     with_reducible rfl
    rotate_left
    ·simp only [Act.put, List.setIfInBounds_toArray, List.set_cons_zero, List.set_cons_succ, i64_w, i32_w]
     rfl
    refine join_ (σ := Value × Nat) 2 #[true, true, true, true, false, false] (fun s_ => [(22, s_.1), (6, .pointer (some ⟨s_.2, 0, none⟩))]) (fun s_ w' => (w'.cell? ⟨gb215, 0, none⟩ = some (.int .i64 a0_0) ∧ w'.cell? ⟨gb215, 1, none⟩ = some (.int .i64 a0_1)) ∧ (Kd.R k25 25 w' w.heap.size (fun k_ => k_ ≠ gb215 ∧ k_ ≠ gb216 ∧ k_ ≠ s_.2) s_.1 y219) ∧ (w'.heap[gb215]? = some (.cells #[.int .i64 a0_0, .int .i64 a0_1] 25 (0, 0))) ∧ (w'.heap[gb216]? = some (.cells #[.int .i64 a1_0, .int .i64 a1_1] 25 (0, 0))) ∧ (w'.heap[s_.2]? = some (.cells #[.int .i64 0, .int .i64 0] 25 (0, 0))) ∧ (w.heap.size ≤ s_.2) ∧ (w.heap.size ≤ s_.2) ∧ (gb215 ≠ s_.2) ∧ (s_.2 ≠ gb215) ∧ (gb216 ≠ s_.2) ∧ (s_.2 ≠ gb216) ∧ (Below w.heap.size w w')) ?_ ?_
    rotate_left
    ·intro hCont
     refine two_ (i := 1) (j := 3) (Ni := some 22) (Nj := some 6) #[true, true, true, false, false, false] #[true, false, true, true, false, false] rfl rfl rfl rfl (by kernel_rfl) (by decide) (by decide) (fun K hK => ?_) (fun K hK => ?_)
     ·skip
      refine Kd.R_lit_step k25 _ 25 ?hg (N := 22) ?hd (xs := ([(⟨a0_0, a0_1⟩ : S25)] : List (S25))) (inner := [.int .i64 a0_0, .int .i64 a0_1]) (ok := fun _ => True) (okp := fun _ => True) ?hr ?hp (fun _ hk => hk) trivial (Below.refl _ _) (Nat.le_refl _) (by simp) ?_; (case hd => rfl); (case hg => rfl); (case hr => first | (go_simp; done) | (go_simp; rfl)); (case hp => exact (Reps.c2 (show Kd.M k25 _ _ _ (⟨a0_0, a0_1⟩ : S25) [.int .i64 a0_0, .int .i64 a0_1] from (k25_mkM _ _ _ (⟨a0_0, a0_1⟩ : S25) )) (Reps.none _ _)))
      intro v220 w20 ho21 hb hg_ hnew_
      clear hg_ hnew_
      (first | rw [← Ny219.out] at ho21 | (simp only [Int.reduceToNat] at ho21; rw [← Ny219.out] at ho21))
      have n0_ := Az.mk (Kd.R_lower (Kd.R_newB (Kd.R_newB ho21 (g := gb215) (o := .cells #[.int .i64 a0_0, .int .i64 a0_1] 25 (0, 0)) (by (with_reducible repeat (first | refine bkN ?_ _ | refine bkD ?_ | refine bkA ?_ _)); exact BK215.out)) (g := gb216) (o := .cells #[.int .i64 a1_0, .int .i64 a1_1] 25 (0, 0)) (by (with_reducible repeat (first | refine bkN ?_ _ | refine bkD ?_ | refine bkA ?_ _)); exact BK216.out)) (bwZ (by repeat (first | (with_reducible first | exact HB.out | apply bwA | apply pbN | apply bwD | refine bwS ?_ GE215.out | refine bwS ?_ GE216.out) | exact HB.out))))
      have n1_ := Az.mk (bkB (g := gb215) (o := .cells #[.int .i64 a0_0, .int .i64 a0_1] 25 (0, 0)) (by (with_reducible repeat (first | refine bkN ?_ _ | refine bkD ?_ | refine bkA ?_ _)); exact BK215.out) hb)
      have n2_ := Az.mk (bkB (g := gb216) (o := .cells #[.int .i64 a1_0, .int .i64 a1_1] 25 (0, 0)) (by (with_reducible repeat (first | refine bkN ?_ _ | refine bkD ?_ | refine bkA ?_ _)); exact BK216.out) hb)
      have n3_ := Az.mk (bwT (by repeat (first | (with_reducible first | exact HB.out | apply bwA | apply pbN | apply bwD | refine bwS ?_ GE215.out | refine bwS ?_ GE216.out) | exact HB.out)) hb)
      clear BK215
      clear BK216
      clear HB
      have HO221 := n0_
      have BK215 := n1_
      have BK216 := n2_
      have HB := n3_
      clear n0_ n1_ n2_ n3_
      clear hb ho21
      refine hK.out _ _ ⟨(bkC BK215.out 0).trans rfl, (bkC BK215.out 1).trans rfl⟩ (fun hHeld => ?_)
      clear hK K
      refine norm_ (a' := ?_) ?_ ?_
      rotate_left
      ·show Act.put _ (some 22) _ = _
       simp only [Act.put, List.setIfInBounds_toArray, List.set_cons_zero, List.set_cons_succ, i64_w, i32_w]
       rfl
      refine one_ (i := 3) (N := some 6) #[true, true, true, true, false, false] rfl rfl (by kernel_rfl) (by decide) (fun K hK => ?_)
      refine box_step ?hg (N := 6) ?hd (cs := #[.int .i64 0, .int .i64 0]) (t := 25) ?hr ?_; (case hd => rfl); (case hg => rfl); (case hr => first | (go_simp; done) | (go_simp; rfl))
      intro gb222 hg w22 hbox hb
      have n0_ := Az.mk (Kd.R_below (Kd.R_elderB (by (with_reducible repeat (first | apply Kd.R_alloc | apply Kd.R_drewN | apply Kd.R_drew)); exact HO221.out) gb222 (Nat.le_of_eq hg.symm)) hb)
      have n1_ := Az.mk (bkB (g := gb215) (o := .cells #[.int .i64 a0_0, .int .i64 a0_1] 25 (0, 0)) (by (with_reducible repeat (first | refine bkN ?_ _ | refine bkD ?_ | refine bkA ?_ _)); exact BK215.out) hb)
      have n2_ := Az.mk (bkB (g := gb216) (o := .cells #[.int .i64 a1_0, .int .i64 a1_1] 25 (0, 0)) (by (with_reducible repeat (first | refine bkN ?_ _ | refine bkD ?_ | refine bkA ?_ _)); exact BK216.out) hb)
      have n3_ := Az.mk (bwT (by repeat (first | (with_reducible first | exact HB.out | apply bwA | apply pbN | apply bwD | refine bwS ?_ GE215.out | refine bwS ?_ GE216.out) | exact HB.out)) hb)
      have n4_ := Az.mk (hbox)
      have n5_ := Az.mk ((by rw [hg]; exact (bwZ (by repeat (first | (with_reducible first | exact HB.out | apply bwA | apply pbN | apply bwD | refine bwS ?_ GE215.out | refine bwS ?_ GE216.out) | exact HB.out))) : w.heap.size ≤ gb222))
      have n6_ := Az.mk ((by rw [hg]; exact (bwZ (by repeat (first | (with_reducible first | exact HB.out | apply bwA | apply pbN | apply bwD | refine bwS ?_ GE215.out | refine bwS ?_ GE216.out) | exact HB.out))) : w.heap.size ≤ gb222))
      have n7_ := Az.mk ((by rw [hg]; exact Nat.ne_of_lt (blk_lt (g := gb215) (o := .cells #[.int .i64 a0_0, .int .i64 a0_1] 25 (0, 0)) (by (with_reducible repeat (first | refine bkN ?_ _ | refine bkD ?_ | refine bkA ?_ _)); exact BK215.out)) : gb215 ≠ gb222))
      have n8_ := Az.mk ((by rw [hg]; exact Nat.ne_of_gt (blk_lt (g := gb215) (o := .cells #[.int .i64 a0_0, .int .i64 a0_1] 25 (0, 0)) (by (with_reducible repeat (first | refine bkN ?_ _ | refine bkD ?_ | refine bkA ?_ _)); exact BK215.out)) : gb222 ≠ gb215))
      have n9_ := Az.mk ((by rw [hg]; exact Nat.ne_of_lt (blk_lt (g := gb216) (o := .cells #[.int .i64 a1_0, .int .i64 a1_1] 25 (0, 0)) (by (with_reducible repeat (first | refine bkN ?_ _ | refine bkD ?_ | refine bkA ?_ _)); exact BK216.out)) : gb216 ≠ gb222))
      have n10_ := Az.mk ((by rw [hg]; exact Nat.ne_of_gt (blk_lt (g := gb216) (o := .cells #[.int .i64 a1_0, .int .i64 a1_1] 25 (0, 0)) (by (with_reducible repeat (first | refine bkN ?_ _ | refine bkD ?_ | refine bkA ?_ _)); exact BK216.out)) : gb222 ≠ gb216))
      clear HO221
      clear BK215
      clear BK216
      clear HB
      have HO221 := n0_
      have BK215 := n1_
      have BK216 := n2_
      have HB := n3_
      have BK222 := n4_
      have GW222 := n5_
      have GE222 := n6_
      have NB215_222 := n7_
      have NB222_215 := n8_
      have NB216_222 := n9_
      have NB222_216 := n10_
      clear n0_ n1_ n2_ n3_ n4_ n5_ n6_ n7_ n8_ n9_ n10_
      clear hb hbox hg
      refine hK.out _ _ ⟨(bkC BK215.out 0).trans rfl, (bkC BK215.out 1).trans rfl⟩ (fun hHeld => ?_)
      clear hK K
      refine norm_ (a' := ?_) ?_ ?_
      rotate_left
      ·show Act.put _ (some 6) _ = _
       simp only [Act.put, List.setIfInBounds_toArray, List.set_cons_zero, List.set_cons_succ, i64_w, i32_w]
       rfl
      exact norm_ (by simp only [putAll, Act.put, List.setIfInBounds_toArray, List.set_cons_zero, List.set_cons_succ]) (hCont (v220, gb222) _ ⟨hHeld, (by (with_reducible repeat (first | apply Kd.R_alloc | apply Kd.R_drewN | apply Kd.R_drew)); exact Kd.R_mono HO221.out (fun _ hk => ⟨hk.1.1.2, ⟨hk.1.2, hk.2⟩⟩)), (by (with_reducible repeat (first | refine bkN ?_ _ | refine bkD ?_ | refine bkA ?_ _)); exact BK215.out), (by (with_reducible repeat (first | refine bkN ?_ _ | refine bkD ?_ | refine bkA ?_ _)); exact BK216.out), (by (with_reducible repeat (first | refine bkN ?_ _ | refine bkD ?_ | refine bkA ?_ _)); exact BK222.out), GW222.out, GE222.out, NB215_222.out, NB222_215.out, NB216_222.out, NB222_216.out, (by repeat (first | (with_reducible first | exact HB.out | apply bwA | apply pbN | apply bwD | refine bwS ?_ GE215.out | refine bwS ?_ GE216.out | refine bwS ?_ GE222.out) | exact HB.out))⟩)
     ·skip
      refine box_step ?hg (N := 6) ?hd (cs := #[.int .i64 0, .int .i64 0]) (t := 25) ?hr ?_; (case hd => rfl); (case hg => rfl); (case hr => first | (go_simp; done) | (go_simp; rfl))
      intro gb222 hg w20 hbox hb
      have n0_ := Az.mk (bkB (g := gb215) (o := .cells #[.int .i64 a0_0, .int .i64 a0_1] 25 (0, 0)) (by (with_reducible repeat (first | refine bkN ?_ _ | refine bkD ?_ | refine bkA ?_ _)); exact BK215.out) hb)
      have n1_ := Az.mk (bkB (g := gb216) (o := .cells #[.int .i64 a1_0, .int .i64 a1_1] 25 (0, 0)) (by (with_reducible repeat (first | refine bkN ?_ _ | refine bkD ?_ | refine bkA ?_ _)); exact BK216.out) hb)
      have n2_ := Az.mk (bwT (by repeat (first | (with_reducible first | exact HB.out | apply bwA | apply pbN | apply bwD | refine bwS ?_ GE215.out | refine bwS ?_ GE216.out) | exact HB.out)) hb)
      have n3_ := Az.mk (hbox)
      have n4_ := Az.mk ((by rw [hg]; exact (bwZ (by repeat (first | (with_reducible first | exact HB.out | apply bwA | apply pbN | apply bwD | refine bwS ?_ GE215.out | refine bwS ?_ GE216.out) | exact HB.out))) : w.heap.size ≤ gb222))
      have n5_ := Az.mk ((by rw [hg]; exact (bwZ (by repeat (first | (with_reducible first | exact HB.out | apply bwA | apply pbN | apply bwD | refine bwS ?_ GE215.out | refine bwS ?_ GE216.out) | exact HB.out))) : w.heap.size ≤ gb222))
      have n6_ := Az.mk ((by rw [hg]; exact Nat.ne_of_lt (blk_lt (g := gb215) (o := .cells #[.int .i64 a0_0, .int .i64 a0_1] 25 (0, 0)) (by (with_reducible repeat (first | refine bkN ?_ _ | refine bkD ?_ | refine bkA ?_ _)); exact BK215.out)) : gb215 ≠ gb222))
      have n7_ := Az.mk ((by rw [hg]; exact Nat.ne_of_gt (blk_lt (g := gb215) (o := .cells #[.int .i64 a0_0, .int .i64 a0_1] 25 (0, 0)) (by (with_reducible repeat (first | refine bkN ?_ _ | refine bkD ?_ | refine bkA ?_ _)); exact BK215.out)) : gb222 ≠ gb215))
      have n8_ := Az.mk ((by rw [hg]; exact Nat.ne_of_lt (blk_lt (g := gb216) (o := .cells #[.int .i64 a1_0, .int .i64 a1_1] 25 (0, 0)) (by (with_reducible repeat (first | refine bkN ?_ _ | refine bkD ?_ | refine bkA ?_ _)); exact BK216.out)) : gb216 ≠ gb222))
      have n9_ := Az.mk ((by rw [hg]; exact Nat.ne_of_gt (blk_lt (g := gb216) (o := .cells #[.int .i64 a1_0, .int .i64 a1_1] 25 (0, 0)) (by (with_reducible repeat (first | refine bkN ?_ _ | refine bkD ?_ | refine bkA ?_ _)); exact BK216.out)) : gb222 ≠ gb216))
      clear BK215
      clear BK216
      clear HB
      have BK215 := n0_
      have BK216 := n1_
      have HB := n2_
      have BK222 := n3_
      have GW222 := n4_
      have GE222 := n5_
      have NB215_222 := n6_
      have NB222_215 := n7_
      have NB216_222 := n8_
      have NB222_216 := n9_
      clear n0_ n1_ n2_ n3_ n4_ n5_ n6_ n7_ n8_ n9_
      clear hb hbox hg
      refine hK.out _ _ ⟨(bkC BK215.out 0).trans rfl, (bkC BK215.out 1).trans rfl⟩ (fun hHeld => ?_)
      clear hK K
      refine norm_ (a' := ?_) ?_ ?_
      rotate_left
      ·show Act.put _ (some 6) _ = _
       simp only [Act.put, List.setIfInBounds_toArray, List.set_cons_zero, List.set_cons_succ, i64_w, i32_w]
       rfl
      refine one_ (i := 1) (N := some 22) #[true, true, true, true, false, false] rfl rfl (by kernel_rfl) (by decide) (fun K hK => ?_)
      refine Kd.R_lit_step k25 _ 25 ?hg (N := 22) ?hd (xs := ([(⟨a0_0, a0_1⟩ : S25)] : List (S25))) (inner := [.int .i64 a0_0, .int .i64 a0_1]) (ok := fun _ => True) (okp := fun _ => True) ?hr ?hp (fun _ hk => hk) trivial (Below.refl _ _) (Nat.le_refl _) (by simp) ?_; (case hd => rfl); (case hg => rfl); (case hr => first | (go_simp; done) | (go_simp; rfl)); (case hp => exact (Reps.c2 (show Kd.M k25 _ _ _ (⟨a0_0, a0_1⟩ : S25) [.int .i64 a0_0, .int .i64 a0_1] from (k25_mkM _ _ _ (⟨a0_0, a0_1⟩ : S25) )) (Reps.none _ _)))
      intro v220 w21 ho22 hb hg_ hnew_
      clear hg_ hnew_
      (first | rw [← Ny219.out] at ho22 | (simp only [Int.reduceToNat] at ho22; rw [← Ny219.out] at ho22))
      have n0_ := Az.mk (Kd.R_lower (Kd.R_newB (Kd.R_newB (Kd.R_newB ho22 (g := gb215) (o := .cells #[.int .i64 a0_0, .int .i64 a0_1] 25 (0, 0)) (by (with_reducible repeat (first | refine bkN ?_ _ | refine bkD ?_ | refine bkA ?_ _)); exact BK215.out)) (g := gb216) (o := .cells #[.int .i64 a1_0, .int .i64 a1_1] 25 (0, 0)) (by (with_reducible repeat (first | refine bkN ?_ _ | refine bkD ?_ | refine bkA ?_ _)); exact BK216.out)) (g := gb222) (o := .cells #[.int .i64 0, .int .i64 0] 25 (0, 0)) (by (with_reducible repeat (first | refine bkN ?_ _ | refine bkD ?_ | refine bkA ?_ _)); exact BK222.out)) (bwZ (by repeat (first | (with_reducible first | exact HB.out | apply bwA | apply pbN | apply bwD | refine bwS ?_ GE215.out | refine bwS ?_ GE216.out | refine bwS ?_ GE222.out) | exact HB.out))))
      have n1_ := Az.mk (bkB (g := gb215) (o := .cells #[.int .i64 a0_0, .int .i64 a0_1] 25 (0, 0)) (by (with_reducible repeat (first | refine bkN ?_ _ | refine bkD ?_ | refine bkA ?_ _)); exact BK215.out) hb)
      have n2_ := Az.mk (bkB (g := gb216) (o := .cells #[.int .i64 a1_0, .int .i64 a1_1] 25 (0, 0)) (by (with_reducible repeat (first | refine bkN ?_ _ | refine bkD ?_ | refine bkA ?_ _)); exact BK216.out) hb)
      have n3_ := Az.mk (bkB (g := gb222) (o := .cells #[.int .i64 0, .int .i64 0] 25 (0, 0)) (by (with_reducible repeat (first | refine bkN ?_ _ | refine bkD ?_ | refine bkA ?_ _)); exact BK222.out) hb)
      have n4_ := Az.mk (bwT (by repeat (first | (with_reducible first | exact HB.out | apply bwA | apply pbN | apply bwD | refine bwS ?_ GE215.out | refine bwS ?_ GE216.out | refine bwS ?_ GE222.out) | exact HB.out)) hb)
      clear BK215
      clear BK216
      clear BK222
      clear HB
      have HO221 := n0_
      have BK215 := n1_
      have BK216 := n2_
      have BK222 := n3_
      have HB := n4_
      clear n0_ n1_ n2_ n3_ n4_
      clear hb ho22
      refine hK.out _ _ ⟨(bkC BK215.out 0).trans rfl, (bkC BK215.out 1).trans rfl⟩ (fun hHeld => ?_)
      clear hK K
      refine norm_ (a' := ?_) ?_ ?_
      rotate_left
      ·show Act.put _ (some 22) _ = _
       simp only [Act.put, List.setIfInBounds_toArray, List.set_cons_zero, List.set_cons_succ, i64_w, i32_w]
       rfl
      exact norm_ (by simp only [putAll, Act.put, List.setIfInBounds_toArray, List.set_cons_zero, List.set_cons_succ]) (hCont (v220, gb222) _ ⟨hHeld, (by (with_reducible repeat (first | apply Kd.R_alloc | apply Kd.R_drewN | apply Kd.R_drew)); exact Kd.R_mono HO221.out (fun _ hk => ⟨hk.1.1.2, ⟨hk.1.2, hk.2⟩⟩)), (by (with_reducible repeat (first | refine bkN ?_ _ | refine bkD ?_ | refine bkA ?_ _)); exact BK215.out), (by (with_reducible repeat (first | refine bkN ?_ _ | refine bkD ?_ | refine bkA ?_ _)); exact BK216.out), (by (with_reducible repeat (first | refine bkN ?_ _ | refine bkD ?_ | refine bkA ?_ _)); exact BK222.out), GW222.out, GE222.out, NB215_222.out, NB222_215.out, NB216_222.out, NB222_216.out, (by repeat (first | (with_reducible first | exact HB.out | apply bwA | apply pbN | apply bwD | refine bwS ?_ GE215.out | refine bwS ?_ GE216.out | refine bwS ?_ GE222.out) | exact HB.out))⟩)
    rintro ⟨v220, gb222⟩ w23 ⟨hS_, h0_, h1_, h2_, h3_, h4_, h5_, h6_, h7_, h8_, h9_, h10_⟩
    have n0_ : Az (Kd.R k25 25 w23 w.heap.size (fun k_ => k_ ≠ gb215 ∧ k_ ≠ gb216 ∧ k_ ≠ gb222) v220 y219) := ⟨h0_⟩
    have n1_ : Az (w23.heap[gb215]? = some (.cells #[.int .i64 a0_0, .int .i64 a0_1] 25 (0, 0))) := ⟨h1_⟩
    have n2_ : Az (w23.heap[gb216]? = some (.cells #[.int .i64 a1_0, .int .i64 a1_1] 25 (0, 0))) := ⟨h2_⟩
    have n3_ : Az (w23.heap[gb222]? = some (.cells #[.int .i64 0, .int .i64 0] 25 (0, 0))) := ⟨h3_⟩
    have n4_ : Az (w.heap.size ≤ gb222) := ⟨h4_⟩
    have n5_ : Az (w.heap.size ≤ gb222) := ⟨h5_⟩
    have n6_ : Az (gb215 ≠ gb222) := ⟨h6_⟩
    have n7_ : Az (gb222 ≠ gb215) := ⟨h7_⟩
    have n8_ : Az (gb216 ≠ gb222) := ⟨h8_⟩
    have n9_ : Az (gb222 ≠ gb216) := ⟨h9_⟩
    have n10_ : Az (Below w.heap.size w w23) := ⟨h10_⟩
    clear BK215
    clear BK216
    clear HB
    clear h0_ h1_ h2_ h3_ h4_ h5_ h6_ h7_ h8_ h9_ h10_
    have HO221 := n0_
    have BK215 := n1_
    have BK216 := n2_
    have BK222 := n3_
    have GW222 := n4_
    have GE222 := n5_
    have NB215_222 := n6_
    have NB222_215 := n7_
    have NB216_222 := n8_
    have NB222_216 := n9_
    have HB := n10_
    clear n0_ n1_ n2_ n3_ n4_ n5_ n6_ n7_ n8_ n9_ n10_
    have hHeld : w23.cell? ⟨gb215, 0, none⟩ = some (.int .i64 a0_0) ∧ w23.cell? ⟨gb215, 1, none⟩ = some (.int .i64 a0_1) := hS_
    refine norm_ (a' := ?_) ?_ ?_
    rotate_left
    ·simp only [putAll, Act.put, List.setIfInBounds_toArray, List.set_cons_zero, List.set_cons_succ]
     rfl
    refine pure_ (i := 4) (N := some 5) (v := ?_) (a' := ?_) #[true, true, true, true, true, false] rfl rfl (by kernel_rfl) (fun _ _ _ h => h) (Or.inl ⟨by rfl, ?_⟩) ?_ ?_
    rotate_left
    ·intro w'
     go_simp
     with_reducible rfl
    rotate_left
    ·simp only [Act.put, List.setIfInBounds_toArray, List.set_cons_zero, List.set_cons_succ, i64_w, i32_w]
     rfl
    refine one_ (i := 5) (N := none) #[true, true, true, true, true, true] rfl rfl (by kernel_rfl) (by decide) (fun K hK => ?_)
    have hs24 : w23.cell? ⟨gb222, 0, none⟩ = some (.int .i64 0) := (bkC BK222.out 0).trans rfl
    have hfs24 := bkF BK222.out 0
    have hns24_0 := NB215_222.out
    have hns24_1 := NB216_222.out
    have hms24_0 := NB222_215.out
    have hms24_1 := NB222_216.out
    have hs25 : w23.cell? ⟨gb222, 1, none⟩ = some (.int .i64 0) := (bkC BK222.out 1).trans rfl
    have hfs25 := bkF BK222.out 1
    have hns25_0 := NB215_222.out
    have hns25_1 := NB216_222.out
    have hms25_0 := NB222_215.out
    have hms25_1 := NB222_216.out
    refine skip_ (w1 := ?_) (by rfl) rfl ?_ ?_
    rotate_left
    ·go_simp
     rfl
    refine hK.out _ _ ⟨((cell_far (p := ⟨gb222, _, none⟩) NB215_222.out _).trans (((cell_far (p := ⟨gb222, _, none⟩) NB215_222.out _).trans (hHeld.1)))), ((cell_far (p := ⟨gb222, _, none⟩) NB215_222.out _).trans (((cell_far (p := ⟨gb222, _, none⟩) NB215_222.out _).trans (hHeld.2))))⟩ (fun hHeld => ?_)
    clear hK K
    refine done_ (by kernel_rfl) ?_
    have hnb26 := NB215_216.out
    have hnc26 := NB216_215.out
    have hnb27 := NB215_222.out
    have hnc27 := NB222_215.out
    have hcz28_0 : w23.cell? ⟨gb215, 0, none⟩ = some (.int .i64 a0_0) := (bkC BK215.out 0).trans rfl
    have hcz28_1 : w23.cell? ⟨gb215, 1, none⟩ = some (.int .i64 a0_1) := (bkC BK215.out 1).trans rfl
    have hfz28_0 := bkF BK215.out 0
    have hfz28_1 := bkF BK215.out 1
    have hnb29 := NB216_222.out
    have hnc29 := NB222_216.out
    have hcz30_0 : w23.cell? ⟨gb216, 0, none⟩ = some (.int .i64 a1_0) := (bkC BK216.out 0).trans rfl
    have hcz30_1 : w23.cell? ⟨gb216, 1, none⟩ = some (.int .i64 a1_1) := (bkC BK216.out 1).trans rfl
    have hfz30_0 := bkF BK216.out 0
    have hfz30_1 := bkF BK216.out 1
    try go_wp2_with (first | ((with_reducible refine gtC (f := 17) rfl ?_); refine goesL_ (some 26) rfl rfl Try.func17 (by kernel_rfl) rfl #[.agg #[.int .i64 a0_0, .int .i64 a0_1], .agg #[.int .i64 a1_0, .int .i64 a1_1]] rfl (by (try simp only [List.map_toArray, List.map_cons, List.map_nil]); first | done | rfl | (simp only [List.length_drop, List.length_take]; rfl)) ?_; (with_reducible refine (impl_between.calls kj2 a0_0 a0_1 a1_0 a1_1 t223 _ A18.out).mono ?_); rintro e w31 ⟨rfl, hb⟩; refine ⟨_, rfl, ?_⟩; have n0_ := Az.mk (Kd.R_below (by (with_reducible repeat (first | apply Kd.R_alloc | apply Kd.R_drewN | apply Kd.R_drew)); exact (Kd.R_mono (Kd.R_far (p := ⟨gb222, 1, none⟩) (Kd.R_far (p := ⟨gb222, 0, none⟩) (Kd.R_mono HO221.out (fun k_ hk => (⟨hk, hk.2.2⟩ : _ ∧ k_ ≠ gb222))) (fun _ hk => hk.2) (.int .i64 a0_0)) (fun _ hk => hk.2) (.int .i64 a0_1)) (fun _ h_ => h_.1))) hb); have n1_ := Az.mk (bkB (g := gb215) (o := .cells #[.int .i64 a0_0, .int .i64 a0_1] 25 (0, 0)) (by (with_reducible repeat (first | refine bkN ?_ _ | refine bkD ?_ | refine bkA ?_ _)); refine bkf ?_ NB215_222.out _; (with_reducible repeat (first | refine bkN ?_ _ | refine bkD ?_ | refine bkA ?_ _)); refine bkf ?_ NB215_222.out _; (with_reducible repeat (first | refine bkN ?_ _ | refine bkD ?_ | refine bkA ?_ _)); exact BK215.out) hb); have n2_ := Az.mk (bkB (g := gb216) (o := .cells #[.int .i64 a1_0, .int .i64 a1_1] 25 (0, 0)) (by (with_reducible repeat (first | refine bkN ?_ _ | refine bkD ?_ | refine bkA ?_ _)); refine bkf ?_ NB216_222.out _; (with_reducible repeat (first | refine bkN ?_ _ | refine bkD ?_ | refine bkA ?_ _)); refine bkf ?_ NB216_222.out _; (with_reducible repeat (first | refine bkN ?_ _ | refine bkD ?_ | refine bkA ?_ _)); exact BK216.out) hb); have n3_ := Az.mk (bkB (g := gb222) (o := .cells #[.int .i64 a0_0, .int .i64 a0_1] 25 (0, 0)) (by (with_reducible repeat (first | refine bkN ?_ _ | refine bkD ?_ | refine bkA ?_ _)); refine bkp (cs := #[.int .i64 a0_0, .int .i64 0]) ?_ 1 _ rfl; (with_reducible repeat (first | refine bkN ?_ _ | refine bkD ?_ | refine bkA ?_ _)); refine bkp (cs := #[.int .i64 0, .int .i64 0]) ?_ 0 _ rfl; (with_reducible repeat (first | refine bkN ?_ _ | refine bkD ?_ | refine bkA ?_ _)); exact BK222.out) hb); have n4_ := Az.mk (bwT (by repeat (first | (with_reducible first | exact HB.out | apply bwA | apply pbN | apply bwD | refine bwS ?_ GE215.out | refine bwS ?_ GE216.out | refine bwS ?_ GE222.out) | exact HB.out)) hb); clear HO221; clear BK215; clear BK216; clear BK222; clear HB; have HO221 := n0_; have BK215 := n1_; have BK216 := n2_; have BK222 := n3_; have HB := n4_; clear n0_ n1_ n2_ n3_ n4_; (try clear hb); (try clear hb2); (try clear hk); (try clear hi)))
    go_loopg [5, 7] kj2 (fun kq v5 v7 w' => ∃ (x5_2 : List (S25)) (x7_2 : Int) (x223000_2 : Int) (x223001_2 : Int), v7 = .int .i64 x7_2 ∧ Az (impl_StepsBetween.l0 kq x5_2 x7_2 a1_0 a1_1 x223000_2 x223001_2 = some r) ∧ Az (kq ≤ kj2) ∧ Az (Kd.R k25 25 w' w.heap.size (fun k_ => k_ ≠ gb215 ∧ k_ ≠ gb216 ∧ k_ ≠ gb222) v5 x5_2) ∧ Az (w'.heap[gb215]? = some (.cells #[.int .i64 a0_0, .int .i64 a0_1] 25 (0, 0))) ∧ Az (w'.heap[gb216]? = some (.cells #[.int .i64 a1_0, .int .i64 a1_1] 25 (0, 0))) ∧ Az (w'.heap[gb222]? = some (.cells #[.int .i64 x223000_2, .int .i64 x223001_2] 25 (0, 0))) ∧ Az (Below w.heap.size w w'))
    case atStart => exact ⟨(y219), (t223), (a0_0), (a0_1), (by first | rfl | (simp; done) | (simp [*]; done)), H', ⟨Nat.le_refl _⟩, ⟨by (with_reducible repeat (first | apply Kd.R_alloc | apply Kd.R_drewN | apply Kd.R_drew)); exact HO221.out⟩, ⟨by (with_reducible repeat (first | refine bkN ?_ _ | refine bkD ?_ | refine bkA ?_ _)); exact BK215.out⟩, ⟨by (with_reducible repeat (first | refine bkN ?_ _ | refine bkD ?_ | refine bkA ?_ _)); exact BK216.out⟩, ⟨by (with_reducible repeat (first | refine bkN ?_ _ | refine bkD ?_ | refine bkA ?_ _)); exact BK222.out⟩, ⟨by repeat (first | (with_reducible first | exact HB.out | apply bwA | apply pbN | apply bwD | refine bwS ?_ GE215.out | refine bwS ?_ GE216.out | refine bwS ?_ GE222.out) | exact HB.out)⟩⟩
    case round =>
     clear H'
     try clear c1
     try clear c2
     try clear p2
     try clear c7
     try clear c9
     try clear c14
     try clear c17
     try clear c21
     try clear c26
     try clear c27
     try clear c29
     try clear hcz10_0
     try clear hcz10_1
     try clear hcz12_0
     try clear hcz12_1
     try clear hcz15_0
     try clear hcz15_1
     try clear hcz28_0
     try clear hcz28_1
     try clear hcz30_0
     try clear hcz30_1
     try clear hfz10_0
     try clear hfz10_1
     try clear hfz12_0
     try clear hfz12_1
     try clear hfz15_0
     try clear hfz15_1
     try clear hfz28_0
     try clear hfz28_1
     try clear hfz30_0
     try clear hfz30_1
     try clear p2
     obtain ⟨x5_2, x7_2, x223000_2, x223001_2, rfl, HA, HK2, HO_5, BK215, BK216, BK222, HB⟩ := hrel
     cases gk with
     | zero => exact absurd HA.out (by simp [impl_StepsBetween.l0])
     | succ k2 =>
      have H := HA.out
      clear HA
      simp only [impl_StepsBetween.l0] at H
      by_cases c32 : x7_2 > 0
      ·rw [if_pos c32] at H
       have c32b0 : decide (0 < x7_2) = true := decide_eq_true c32
       clear c32
       replace H := Option.bind_eq_some_iff.mp H
       obtain ⟨t225, A330, H⟩ := H
       replace H : (impl_StepsBetween.l1 k2 x5_2 x7_2 x7_2 t225 (t225.length : Int) 0 a1_0 a1_1 0 0) = some r := H
       have A33 := Az.mk A330
       clear A330
       have H' := Az.mk H
       clear H
       go_wp2_with (first | ((with_reducible refine gtD (N := 9) rfl ?_); refine bxE ?hg (N := 9) ?hd (cs := #[.int .i64 0, .int .i64 0]) (t := 25) ?hr ?_; (case hd => rfl); (case hg => rfl); (case hr => first | (go_simp; done) | (go_simp; rfl)); intro gb224 hg w34 hbox hb; have n0_ := Az.mk (Kd.R_below (Kd.R_elderB (by (with_reducible repeat (first | apply Kd.R_alloc | apply Kd.R_drewN | apply Kd.R_drew)); exact HO_5.out) gb224 (Nat.le_of_eq hg.symm)) hb); have n1_ := Az.mk (bkB (g := gb215) (o := .cells #[.int .i64 a0_0, .int .i64 a0_1] 25 (0, 0)) (by (with_reducible repeat (first | refine bkN ?_ _ | refine bkD ?_ | refine bkA ?_ _)); exact BK215.out) hb); have n2_ := Az.mk (bkB (g := gb216) (o := .cells #[.int .i64 a1_0, .int .i64 a1_1] 25 (0, 0)) (by (with_reducible repeat (first | refine bkN ?_ _ | refine bkD ?_ | refine bkA ?_ _)); exact BK216.out) hb); have n3_ := Az.mk (bkB (g := gb222) (o := .cells #[.int .i64 x223000_2, .int .i64 x223001_2] 25 (0, 0)) (by (with_reducible repeat (first | refine bkN ?_ _ | refine bkD ?_ | refine bkA ?_ _)); exact BK222.out) hb); have n4_ := Az.mk (bwT (by repeat (first | (with_reducible first | exact HB.out | apply bwA | apply pbN | apply bwD | refine bwS ?_ GE215.out | refine bwS ?_ GE216.out | refine bwS ?_ GE222.out) | exact HB.out)) hb); have n5_ := Az.mk (hbox); have n6_ := Az.mk ((by rw [hg]; exact (bwZ (by repeat (first | (with_reducible first | exact HB.out | apply bwA | apply pbN | apply bwD | refine bwS ?_ GE215.out | refine bwS ?_ GE216.out | refine bwS ?_ GE222.out) | exact HB.out))) : w.heap.size ≤ gb224)); have n7_ := Az.mk ((by rw [hg]; exact (bwZ (by repeat (first | (with_reducible first | exact HB.out | apply bwA | apply pbN | apply bwD | refine bwS ?_ GE215.out | refine bwS ?_ GE216.out | refine bwS ?_ GE222.out) | exact HB.out))) : w.heap.size ≤ gb224)); have n8_ := Az.mk ((by rw [hg]; exact Nat.ne_of_lt (blk_lt (g := gb215) (o := .cells #[.int .i64 a0_0, .int .i64 a0_1] 25 (0, 0)) (by (with_reducible repeat (first | refine bkN ?_ _ | refine bkD ?_ | refine bkA ?_ _)); exact BK215.out)) : gb215 ≠ gb224)); have n9_ := Az.mk ((by rw [hg]; exact Nat.ne_of_gt (blk_lt (g := gb215) (o := .cells #[.int .i64 a0_0, .int .i64 a0_1] 25 (0, 0)) (by (with_reducible repeat (first | refine bkN ?_ _ | refine bkD ?_ | refine bkA ?_ _)); exact BK215.out)) : gb224 ≠ gb215)); have n10_ := Az.mk ((by rw [hg]; exact Nat.ne_of_lt (blk_lt (g := gb216) (o := .cells #[.int .i64 a1_0, .int .i64 a1_1] 25 (0, 0)) (by (with_reducible repeat (first | refine bkN ?_ _ | refine bkD ?_ | refine bkA ?_ _)); exact BK216.out)) : gb216 ≠ gb224)); have n11_ := Az.mk ((by rw [hg]; exact Nat.ne_of_gt (blk_lt (g := gb216) (o := .cells #[.int .i64 a1_0, .int .i64 a1_1] 25 (0, 0)) (by (with_reducible repeat (first | refine bkN ?_ _ | refine bkD ?_ | refine bkA ?_ _)); exact BK216.out)) : gb224 ≠ gb216)); have n12_ := Az.mk ((by rw [hg]; exact Nat.ne_of_lt (blk_lt (g := gb222) (o := .cells #[.int .i64 x223000_2, .int .i64 x223001_2] 25 (0, 0)) (by (with_reducible repeat (first | refine bkN ?_ _ | refine bkD ?_ | refine bkA ?_ _)); exact BK222.out)) : gb222 ≠ gb224)); have n13_ := Az.mk ((by rw [hg]; exact Nat.ne_of_gt (blk_lt (g := gb222) (o := .cells #[.int .i64 x223000_2, .int .i64 x223001_2] 25 (0, 0)) (by (with_reducible repeat (first | refine bkN ?_ _ | refine bkD ?_ | refine bkA ?_ _)); exact BK222.out)) : gb224 ≠ gb222)); clear HO_5; clear BK215; clear BK216; clear BK222; clear HB; have HO_5 := n0_; have BK215 := n1_; have BK216 := n2_; have BK222 := n3_; have HB := n4_; have BK224 := n5_; have GW224 := n6_; have GE224 := n7_; have NB215_224 := n8_; have NB224_215 := n9_; have NB216_224 := n10_; have NB224_216 := n11_; have NB222_224 := n12_; have NB224_222 := n13_; clear n0_ n1_ n2_ n3_ n4_ n5_ n6_ n7_ n8_ n9_ n10_ n11_ n12_ n13_; clear hb hbox hg; have hnb35 := NB224_215.out; have hnc35 := NB215_224.out; have hnb36 := NB224_216.out; have hnc36 := NB216_224.out; have hnb37 := NB224_222.out; have hnc37 := NB222_224.out; have hcz38_0 : w34.cell? ⟨gb224, 0, none⟩ = some (.int .i64 0) := (bkC BK224.out 0).trans rfl; have hcz38_1 : w34.cell? ⟨gb224, 1, none⟩ = some (.int .i64 0) := (bkC BK224.out 1).trans rfl; have hfz38_0 := bkF BK224.out 0; have hfz38_1 := bkF BK224.out 1; have hnb39 := NB222_215.out; have hnc39 := NB215_222.out; have hnb40 := NB222_216.out; have hnc40 := NB216_222.out; have hcz41_0 : w34.cell? ⟨gb222, 0, none⟩ = some (.int .i64 x223000_2) := (bkC BK222.out 0).trans rfl; have hcz41_1 : w34.cell? ⟨gb222, 1, none⟩ = some (.int .i64 x223001_2) := (bkC BK222.out 1).trans rfl; have hfz41_0 := bkF BK222.out 0; have hfz41_1 := bkF BK222.out 1) | ((with_reducible refine gtC (f := 22) rfl ?_); refine goesL_ (some 32) rfl rfl Try.func22 (by kernel_rfl) rfl #[.agg #[.int .i64 x223000_2, .int .i64 x223001_2], .int .i64 60] rfl (by (try simp only [List.map_toArray, List.map_cons, List.map_nil]); first | done | rfl | (simp only [List.length_drop, List.length_take]; rfl)) ?_; (with_reducible refine (impl_neighbours.calls k2 x223000_2 x223001_2 60 t225 _ A33.out).mono ?_); rintro e w42 ⟨v226, rfl, ho0, hb⟩; refine ⟨_, rfl, ?_⟩; have n0_ := Az.mk (Kd.R_elder' (by (with_reducible repeat (first | apply Kd.R_alloc | apply Kd.R_drewN | apply Kd.R_drew)); exact (Kd.R_mono (Kd.R_far (p := ⟨gb224, 1, none⟩) (Kd.R_far (p := ⟨gb224, 0, none⟩) (Kd.R_mono HO_5.out (fun k_ hk => (⟨hk, hk.2⟩ : _ ∧ k_ ≠ gb224))) (fun _ hk => hk.2) (.int .i64 0)) (fun _ hk => hk.2) (.int .i64 0)) (fun _ h_ => h_.1))) (Kd.R_base ho0) hb); have n1_ := Az.mk (Kd.R_lower (Kd.R_newB (Kd.R_newB (Kd.R_newB (Kd.R_newB (Kd.R_new' ho0 (Kd.R_lt (by (with_reducible repeat (first | apply Kd.R_alloc | apply Kd.R_drewN | apply Kd.R_drew)); exact (Kd.R_mono (Kd.R_far (p := ⟨gb224, 1, none⟩) (Kd.R_far (p := ⟨gb224, 0, none⟩) (Kd.R_mono HO_5.out (fun k_ hk => (⟨hk, hk.2⟩ : _ ∧ k_ ≠ gb224))) (fun _ hk => hk.2) (.int .i64 0)) (fun _ hk => hk.2) (.int .i64 0)) (fun _ h_ => h_.1))))) (g := gb215) (o := .cells #[.int .i64 a0_0, .int .i64 a0_1] 25 (0, 0)) (by (with_reducible repeat (first | refine bkN ?_ _ | refine bkD ?_ | refine bkA ?_ _)); refine bkf ?_ NB215_224.out _; (with_reducible repeat (first | refine bkN ?_ _ | refine bkD ?_ | refine bkA ?_ _)); refine bkf ?_ NB215_224.out _; (with_reducible repeat (first | refine bkN ?_ _ | refine bkD ?_ | refine bkA ?_ _)); exact BK215.out)) (g := gb216) (o := .cells #[.int .i64 a1_0, .int .i64 a1_1] 25 (0, 0)) (by (with_reducible repeat (first | refine bkN ?_ _ | refine bkD ?_ | refine bkA ?_ _)); refine bkf ?_ NB216_224.out _; (with_reducible repeat (first | refine bkN ?_ _ | refine bkD ?_ | refine bkA ?_ _)); refine bkf ?_ NB216_224.out _; (with_reducible repeat (first | refine bkN ?_ _ | refine bkD ?_ | refine bkA ?_ _)); exact BK216.out)) (g := gb222) (o := .cells #[.int .i64 x223000_2, .int .i64 x223001_2] 25 (0, 0)) (by (with_reducible repeat (first | refine bkN ?_ _ | refine bkD ?_ | refine bkA ?_ _)); refine bkf ?_ NB222_224.out _; (with_reducible repeat (first | refine bkN ?_ _ | refine bkD ?_ | refine bkA ?_ _)); refine bkf ?_ NB222_224.out _; (with_reducible repeat (first | refine bkN ?_ _ | refine bkD ?_ | refine bkA ?_ _)); exact BK222.out)) (g := gb224) (o := .cells #[.int .i64 0, .int .i64 0] 25 (0, 0)) (by (with_reducible repeat (first | refine bkN ?_ _ | refine bkD ?_ | refine bkA ?_ _)); refine bkp (cs := #[.int .i64 0, .int .i64 0]) ?_ 1 _ rfl; (with_reducible repeat (first | refine bkN ?_ _ | refine bkD ?_ | refine bkA ?_ _)); refine bkp (cs := #[.int .i64 0, .int .i64 0]) ?_ 0 _ rfl; (with_reducible repeat (first | refine bkN ?_ _ | refine bkD ?_ | refine bkA ?_ _)); exact BK224.out)) (bwZ (by repeat (first | (with_reducible first | exact HB.out | apply bwA | apply pbN | apply bwD | refine bwS ?_ GE215.out | refine bwS ?_ GE216.out | refine bwS ?_ GE222.out | refine bwS ?_ GE224.out) | exact HB.out)))); have n2_ := Az.mk (bkB (g := gb215) (o := .cells #[.int .i64 a0_0, .int .i64 a0_1] 25 (0, 0)) (by (with_reducible repeat (first | refine bkN ?_ _ | refine bkD ?_ | refine bkA ?_ _)); refine bkf ?_ NB215_224.out _; (with_reducible repeat (first | refine bkN ?_ _ | refine bkD ?_ | refine bkA ?_ _)); refine bkf ?_ NB215_224.out _; (with_reducible repeat (first | refine bkN ?_ _ | refine bkD ?_ | refine bkA ?_ _)); exact BK215.out) hb); have n3_ := Az.mk (bkB (g := gb216) (o := .cells #[.int .i64 a1_0, .int .i64 a1_1] 25 (0, 0)) (by (with_reducible repeat (first | refine bkN ?_ _ | refine bkD ?_ | refine bkA ?_ _)); refine bkf ?_ NB216_224.out _; (with_reducible repeat (first | refine bkN ?_ _ | refine bkD ?_ | refine bkA ?_ _)); refine bkf ?_ NB216_224.out _; (with_reducible repeat (first | refine bkN ?_ _ | refine bkD ?_ | refine bkA ?_ _)); exact BK216.out) hb); have n4_ := Az.mk (bkB (g := gb222) (o := .cells #[.int .i64 x223000_2, .int .i64 x223001_2] 25 (0, 0)) (by (with_reducible repeat (first | refine bkN ?_ _ | refine bkD ?_ | refine bkA ?_ _)); refine bkf ?_ NB222_224.out _; (with_reducible repeat (first | refine bkN ?_ _ | refine bkD ?_ | refine bkA ?_ _)); refine bkf ?_ NB222_224.out _; (with_reducible repeat (first | refine bkN ?_ _ | refine bkD ?_ | refine bkA ?_ _)); exact BK222.out) hb); have n5_ := Az.mk (bkB (g := gb224) (o := .cells #[.int .i64 0, .int .i64 0] 25 (0, 0)) (by (with_reducible repeat (first | refine bkN ?_ _ | refine bkD ?_ | refine bkA ?_ _)); refine bkp (cs := #[.int .i64 0, .int .i64 0]) ?_ 1 _ rfl; (with_reducible repeat (first | refine bkN ?_ _ | refine bkD ?_ | refine bkA ?_ _)); refine bkp (cs := #[.int .i64 0, .int .i64 0]) ?_ 0 _ rfl; (with_reducible repeat (first | refine bkN ?_ _ | refine bkD ?_ | refine bkA ?_ _)); exact BK224.out) hb); have n6_ := Az.mk (bwT (by repeat (first | (with_reducible first | exact HB.out | apply bwA | apply pbN | apply bwD | refine bwS ?_ GE215.out | refine bwS ?_ GE216.out | refine bwS ?_ GE222.out | refine bwS ?_ GE224.out) | exact HB.out)) hb); clear HO_5; clear BK215; clear BK216; clear BK222; clear BK224; clear HB; have HO_5 := n0_; have HO227 := n1_; have BK215 := n2_; have BK216 := n3_; have BK222 := n4_; have BK224 := n5_; have HB := n6_; clear n0_ n1_ n2_ n3_ n4_ n5_ n6_; (try clear hb); (try clear hb2); (try clear hk); (try clear hi); (try clear ho0); obtain ⟨Ao43, co43, eo43⟩ := Kd.R_slice HO227.out; subst eo43))
       go_loopg [8, 34] k2 (fun kq v8 v34 w' => ∃ (x8_3 : Int) (x34_3 : Int) (x225000_3 : Int) (x225001_3 : Int), v8 = .int .i64 x8_3 ∧ v34 = .int .i64 x34_3 ∧ Az (impl_StepsBetween.l1 kq x5_2 x7_2 x8_3 t225 (t225.length : Int) x34_3 a1_0 a1_1 x225000_3 x225001_3 = some r) ∧ Az (kq ≤ k2) ∧ Az (Kd.R k25 25 w' w.heap.size (fun k_ => some k_ ≠ ((.slice Ao43 t225.length co43) : Value).ownBlock ∧ k_ ≠ gb215 ∧ k_ ≠ gb216 ∧ k_ ≠ gb222 ∧ k_ ≠ gb224) u5 x5_2) ∧ Az (Kd.R k25 25 w' w.heap.size (fun k_ => some k_ ≠ (u5 : Value).ownBlock ∧ k_ ≠ gb215 ∧ k_ ≠ gb216 ∧ k_ ≠ gb222 ∧ k_ ≠ gb224) (.slice Ao43 t225.length co43) t225) ∧ Az (w'.heap[gb215]? = some (.cells #[.int .i64 a0_0, .int .i64 a0_1] 25 (0, 0))) ∧ Az (w'.heap[gb216]? = some (.cells #[.int .i64 a1_0, .int .i64 a1_1] 25 (0, 0))) ∧ Az (w'.heap[gb222]? = some (.cells #[.int .i64 x223000_2, .int .i64 x223001_2] 25 (0, 0))) ∧ Az (w'.heap[gb224]? = some (.cells #[.int .i64 x225000_3, .int .i64 x225001_3] 25 (0, 0))) ∧ Az (Below w.heap.size w w'))
       case atStart => exact ⟨(x7_2), (0), (0), (0), (by first | rfl | (simp; done) | (simp [*]; done)), (by first | rfl | (simp; done) | (simp [*]; done)), H', ⟨Nat.le_refl _⟩, ⟨by (with_reducible repeat (first | apply Kd.R_alloc | apply Kd.R_drewN | apply Kd.R_drew)); exact Kd.R_mono HO_5.out (fun _ hk => ⟨hk.2, ⟨hk.1.1.1, ⟨hk.1.1.2.1, ⟨hk.1.1.2.2, hk.1.2⟩⟩⟩⟩)⟩, ⟨by (with_reducible repeat (first | apply Kd.R_alloc | apply Kd.R_drewN | apply Kd.R_drew)); exact Kd.R_mono HO227.out (fun _ hk => ⟨hk.1.1.1.1.2, ⟨hk.1.1.1.2, ⟨hk.1.1.2, ⟨hk.1.2, hk.2⟩⟩⟩⟩)⟩, ⟨by (with_reducible repeat (first | refine bkN ?_ _ | refine bkD ?_ | refine bkA ?_ _)); exact BK215.out⟩, ⟨by (with_reducible repeat (first | refine bkN ?_ _ | refine bkD ?_ | refine bkA ?_ _)); exact BK216.out⟩, ⟨by (with_reducible repeat (first | refine bkN ?_ _ | refine bkD ?_ | refine bkA ?_ _)); exact BK222.out⟩, ⟨by (with_reducible repeat (first | refine bkN ?_ _ | refine bkD ?_ | refine bkA ?_ _)); exact BK224.out⟩, ⟨by repeat (first | (with_reducible first | exact HB.out | apply bwA | apply pbN | apply bwD | refine bwS ?_ GE215.out | refine bwS ?_ GE216.out | refine bwS ?_ GE222.out | refine bwS ?_ GE224.out) | exact HB.out)⟩⟩
       case round =>
        clear H'
        try clear c1
        try clear c2
        try clear p2
        try clear c3
        try clear c4
        try clear c7
        try clear c9
        try clear c14
        try clear c17
        try clear c21
        try clear c22
        try clear c26
        try clear c27
        try clear c29
        try clear c32
        try clear c32b0
        try clear c35
        try clear c36
        try clear c37
        try clear c39
        try clear c40
        try clear hcz10_0
        try clear hcz10_1
        try clear hcz12_0
        try clear hcz12_1
        try clear hcz15_0
        try clear hcz15_1
        try clear hcz28_0
        try clear hcz28_1
        try clear hcz30_0
        try clear hcz30_1
        try clear hcz38_0
        try clear hcz38_1
        try clear hcz41_0
        try clear hcz41_1
        try clear hfz10_0
        try clear hfz10_1
        try clear hfz12_0
        try clear hfz12_1
        try clear hfz15_0
        try clear hfz15_1
        try clear hfz28_0
        try clear hfz28_1
        try clear hfz30_0
        try clear hfz30_1
        try clear hfz38_0
        try clear hfz38_1
        try clear hfz41_0
        try clear hfz41_1
        try clear p2
        obtain ⟨x8_3, x34_3, x225000_3, x225001_3, rfl, rfl, HA, HK3, HO_5, HO_32, BK215, BK216, BK222, BK224, HB⟩ := hrel
        cases gk with
        | zero => exact absurd HA.out (by simp [impl_StepsBetween.l1])
        | succ k3 =>
         have H := HA.out
         clear HA
         simp only [impl_StepsBetween.l1] at H
         by_cases c44 : x34_3 < (t225.length : Int)
         ·rw [if_pos c44] at H
          have c44b0 : decide (x34_3 < (t225.length : Int)) = true := decide_eq_true c44
          clear c44
          by_cases c45 : 0 ≤ x34_3
          ·rw [if_pos c45] at H
           have c45b0 : decide (0 ≤ x34_3) = true := decide_eq_true c45
           clear c45
           by_cases c46 : x34_3 < (t225.length : Int)
           ·rw [if_pos c46] at H
            have c46b0 : decide (x34_3 < (t225.length : Int)) = true := decide_eq_true c46
            clear c46
            replace H := Option.bind_eq_some_iff.mp H
            obtain ⟨t230, A470, H⟩ := H
            replace H : (if t230 < x8_3 then (impl_StepsBetween.l1 k3 x5_2 x7_2 t230 t225 (t225.length : Int) (wrap64 (x34_3 + 1)) a1_0 a1_1 ((rd_T25 t225 x34_3).f0) ((rd_T25 t225 x34_3).f1)) else (impl_StepsBetween.l1 k3 x5_2 x7_2 x8_3 t225 (t225.length : Int) (wrap64 (x34_3 + 1)) a1_0 a1_1 x225000_3 x225001_3)) = some r := H
            have A47 := Az.mk A470
            clear A470
            by_cases c48 : t230 < x8_3
            ·rw [if_pos c48] at H
             have c48b0 : decide (t230 < x8_3) = true := decide_eq_true c48
             clear c48
             have H' := Az.mk H
             clear H
             have p228 : 0 ≤ (x34_3 : Int) := of_decide_eq_true (by first | (with_reducible assumption) | assumption)
             have q228 : x34_3 < (t225.length : Int) := of_decide_eq_true (by first | (with_reducible assumption) | assumption)
             obtain ⟨ad228, e228, hx228_0, hx228_1⟩ := at_T25 (Kd.R_reads' HO_32.out).2.2 x34_3 p228 q228
             cases e228
             replace p228 := eq_true p228
             replace q228 := eq_true q228
             try go_wp2_with (first | ((with_reducible refine gtD (N := 11) rfl ?_); refine bxE ?hg (N := 11) ?hd (cs := #[.int .i64 0, .int .i64 0]) (t := 25) ?hr ?_; (case hd => rfl); (case hg => rfl); (case hr => first | (go_simp; done) | (go_simp; rfl)); intro gb229 hg w49 hbox hb; have n0_ := Az.mk (Kd.R_below (Kd.R_elderB (by (with_reducible repeat (first | apply Kd.R_alloc | apply Kd.R_drewN | apply Kd.R_drew)); exact HO_5.out) gb229 (Nat.le_of_eq hg.symm)) hb); have n1_ := Az.mk (Kd.R_below (Kd.R_elderB (by (with_reducible repeat (first | apply Kd.R_alloc | apply Kd.R_drewN | apply Kd.R_drew)); exact HO_32.out) gb229 (Nat.le_of_eq hg.symm)) hb); have n2_ := Az.mk (bkB (g := gb215) (o := .cells #[.int .i64 a0_0, .int .i64 a0_1] 25 (0, 0)) (by (with_reducible repeat (first | refine bkN ?_ _ | refine bkD ?_ | refine bkA ?_ _)); exact BK215.out) hb); have n3_ := Az.mk (bkB (g := gb216) (o := .cells #[.int .i64 a1_0, .int .i64 a1_1] 25 (0, 0)) (by (with_reducible repeat (first | refine bkN ?_ _ | refine bkD ?_ | refine bkA ?_ _)); exact BK216.out) hb); have n4_ := Az.mk (bkB (g := gb222) (o := .cells #[.int .i64 x223000_2, .int .i64 x223001_2] 25 (0, 0)) (by (with_reducible repeat (first | refine bkN ?_ _ | refine bkD ?_ | refine bkA ?_ _)); exact BK222.out) hb); have n5_ := Az.mk (bkB (g := gb224) (o := .cells #[.int .i64 x225000_3, .int .i64 x225001_3] 25 (0, 0)) (by (with_reducible repeat (first | refine bkN ?_ _ | refine bkD ?_ | refine bkA ?_ _)); exact BK224.out) hb); have n6_ := Az.mk (bwT (by repeat (first | (with_reducible first | exact HB.out | apply bwA | apply pbN | apply bwD | refine bwS ?_ GE215.out | refine bwS ?_ GE216.out | refine bwS ?_ GE222.out | refine bwS ?_ GE224.out) | exact HB.out)) hb); have n7_ := Az.mk (hbox); have n8_ := Az.mk ((by rw [hg]; exact (bwZ (by repeat (first | (with_reducible first | exact HB.out | apply bwA | apply pbN | apply bwD | refine bwS ?_ GE215.out | refine bwS ?_ GE216.out | refine bwS ?_ GE222.out | refine bwS ?_ GE224.out) | exact HB.out))) : w.heap.size ≤ gb229)); have n9_ := Az.mk ((by rw [hg]; exact (bwZ (by repeat (first | (with_reducible first | exact HB.out | apply bwA | apply pbN | apply bwD | refine bwS ?_ GE215.out | refine bwS ?_ GE216.out | refine bwS ?_ GE222.out | refine bwS ?_ GE224.out) | exact HB.out))) : w.heap.size ≤ gb229)); have n10_ := Az.mk ((by rw [hg]; exact Nat.ne_of_lt (blk_lt (g := gb215) (o := .cells #[.int .i64 a0_0, .int .i64 a0_1] 25 (0, 0)) (by (with_reducible repeat (first | refine bkN ?_ _ | refine bkD ?_ | refine bkA ?_ _)); exact BK215.out)) : gb215 ≠ gb229)); have n11_ := Az.mk ((by rw [hg]; exact Nat.ne_of_gt (blk_lt (g := gb215) (o := .cells #[.int .i64 a0_0, .int .i64 a0_1] 25 (0, 0)) (by (with_reducible repeat (first | refine bkN ?_ _ | refine bkD ?_ | refine bkA ?_ _)); exact BK215.out)) : gb229 ≠ gb215)); have n12_ := Az.mk ((by rw [hg]; exact Nat.ne_of_lt (blk_lt (g := gb216) (o := .cells #[.int .i64 a1_0, .int .i64 a1_1] 25 (0, 0)) (by (with_reducible repeat (first | refine bkN ?_ _ | refine bkD ?_ | refine bkA ?_ _)); exact BK216.out)) : gb216 ≠ gb229)); have n13_ := Az.mk ((by rw [hg]; exact Nat.ne_of_gt (blk_lt (g := gb216) (o := .cells #[.int .i64 a1_0, .int .i64 a1_1] 25 (0, 0)) (by (with_reducible repeat (first | refine bkN ?_ _ | refine bkD ?_ | refine bkA ?_ _)); exact BK216.out)) : gb229 ≠ gb216)); have n14_ := Az.mk ((by rw [hg]; exact Nat.ne_of_lt (blk_lt (g := gb222) (o := .cells #[.int .i64 x223000_2, .int .i64 x223001_2] 25 (0, 0)) (by (with_reducible repeat (first | refine bkN ?_ _ | refine bkD ?_ | refine bkA ?_ _)); exact BK222.out)) : gb222 ≠ gb229)); have n15_ := Az.mk ((by rw [hg]; exact Nat.ne_of_gt (blk_lt (g := gb222) (o := .cells #[.int .i64 x223000_2, .int .i64 x223001_2] 25 (0, 0)) (by (with_reducible repeat (first | refine bkN ?_ _ | refine bkD ?_ | refine bkA ?_ _)); exact BK222.out)) : gb229 ≠ gb222)); have n16_ := Az.mk ((by rw [hg]; exact Nat.ne_of_lt (blk_lt (g := gb224) (o := .cells #[.int .i64 x225000_3, .int .i64 x225001_3] 25 (0, 0)) (by (with_reducible repeat (first | refine bkN ?_ _ | refine bkD ?_ | refine bkA ?_ _)); exact BK224.out)) : gb224 ≠ gb229)); have n17_ := Az.mk ((by rw [hg]; exact Nat.ne_of_gt (blk_lt (g := gb224) (o := .cells #[.int .i64 x225000_3, .int .i64 x225001_3] 25 (0, 0)) (by (with_reducible repeat (first | refine bkN ?_ _ | refine bkD ?_ | refine bkA ?_ _)); exact BK224.out)) : gb229 ≠ gb224)); clear HO_5; clear HO_32; clear BK215; clear BK216; clear BK222; clear BK224; clear HB; have HO_5 := n0_; have HO_32 := n1_; have BK215 := n2_; have BK216 := n3_; have BK222 := n4_; have BK224 := n5_; have HB := n6_; have BK229 := n7_; have GW229 := n8_; have GE229 := n9_; have NB215_229 := n10_; have NB229_215 := n11_; have NB216_229 := n12_; have NB229_216 := n13_; have NB222_229 := n14_; have NB229_222 := n15_; have NB224_229 := n16_; have NB229_224 := n17_; clear n0_ n1_ n2_ n3_ n4_ n5_ n6_ n7_ n8_ n9_ n10_ n11_ n12_ n13_ n14_ n15_ n16_ n17_; clear hb hbox hg; have hnb50 := NB229_215.out; have hnc50 := NB215_229.out; have hnb51 := NB229_216.out; have hnc51 := NB216_229.out; have hnb52 := NB229_222.out; have hnc52 := NB222_229.out; have hnb53 := NB229_224.out; have hnc53 := NB224_229.out; have hcz54_0 : w49.cell? ⟨gb229, 0, none⟩ = some (.int .i64 0) := (bkC BK229.out 0).trans rfl; have hcz54_1 : w49.cell? ⟨gb229, 1, none⟩ = some (.int .i64 0) := (bkC BK229.out 1).trans rfl; have hfz54_0 := bkF BK229.out 0; have hfz54_1 := bkF BK229.out 1; have hnb55 := NB216_215.out; have hnc55 := NB215_216.out; have hnb56 := NB216_222.out; have hnc56 := NB222_216.out; have hnb57 := NB216_224.out; have hnc57 := NB224_216.out; have hcz58_0 : w49.cell? ⟨gb216, 0, none⟩ = some (.int .i64 a1_0) := (bkC BK216.out 0).trans rfl; have hcz58_1 : w49.cell? ⟨gb216, 1, none⟩ = some (.int .i64 a1_1) := (bkC BK216.out 1).trans rfl; have hfz58_0 := bkF BK216.out 0; have hfz58_1 := bkF BK216.out 1) | ((with_reducible refine gtC (f := 17) rfl ?_); refine goesL_ (some 40) rfl rfl Try.func17 (by kernel_rfl) rfl #[.agg #[.int .i64 ((rd_T25 t225 x34_3).f0), .int .i64 ((rd_T25 t225 x34_3).f1)], .agg #[.int .i64 a1_0, .int .i64 a1_1]] rfl (by (try simp only [List.map_toArray, List.map_cons, List.map_nil]); first | done | rfl | (simp only [List.length_drop, List.length_take]; rfl)) ?_; (with_reducible refine (impl_between.calls k3 ((rd_T25 t225 x34_3).f0) ((rd_T25 t225 x34_3).f1) a1_0 a1_1 t230 _ A47.out).mono ?_); rintro e w59 ⟨rfl, hb⟩; refine ⟨_, rfl, ?_⟩; have n0_ := Az.mk (Kd.R_below (by (with_reducible repeat (first | apply Kd.R_alloc | apply Kd.R_drewN | apply Kd.R_drew)); exact (Kd.R_mono (Kd.R_far (p := ⟨gb229, 1, none⟩) (Kd.R_far (p := ⟨gb229, 0, none⟩) (Kd.R_mono HO_5.out (fun k_ hk => (⟨hk, hk.2⟩ : _ ∧ k_ ≠ gb229))) (fun _ hk => hk.2) (.int .i64 ((rd_T25 t225 x34_3).f0))) (fun _ hk => hk.2) (.int .i64 ((rd_T25 t225 x34_3).f1))) (fun _ h_ => h_.1))) hb); have n1_ := Az.mk (Kd.R_below (by (with_reducible repeat (first | apply Kd.R_alloc | apply Kd.R_drewN | apply Kd.R_drew)); exact (Kd.R_mono (Kd.R_far (p := ⟨gb229, 1, none⟩) (Kd.R_far (p := ⟨gb229, 0, none⟩) (Kd.R_mono HO_32.out (fun k_ hk => (⟨hk, hk.2⟩ : _ ∧ k_ ≠ gb229))) (fun _ hk => hk.2) (.int .i64 ((rd_T25 t225 x34_3).f0))) (fun _ hk => hk.2) (.int .i64 ((rd_T25 t225 x34_3).f1))) (fun _ h_ => h_.1))) hb); have n2_ := Az.mk (bkB (g := gb215) (o := .cells #[.int .i64 a0_0, .int .i64 a0_1] 25 (0, 0)) (by (with_reducible repeat (first | refine bkN ?_ _ | refine bkD ?_ | refine bkA ?_ _)); refine bkf ?_ NB215_229.out _; (with_reducible repeat (first | refine bkN ?_ _ | refine bkD ?_ | refine bkA ?_ _)); refine bkf ?_ NB215_229.out _; (with_reducible repeat (first | refine bkN ?_ _ | refine bkD ?_ | refine bkA ?_ _)); exact BK215.out) hb); have n3_ := Az.mk (bkB (g := gb216) (o := .cells #[.int .i64 a1_0, .int .i64 a1_1] 25 (0, 0)) (by (with_reducible repeat (first | refine bkN ?_ _ | refine bkD ?_ | refine bkA ?_ _)); refine bkf ?_ NB216_229.out _; (with_reducible repeat (first | refine bkN ?_ _ | refine bkD ?_ | refine bkA ?_ _)); refine bkf ?_ NB216_229.out _; (with_reducible repeat (first | refine bkN ?_ _ | refine bkD ?_ | refine bkA ?_ _)); exact BK216.out) hb); have n4_ := Az.mk (bkB (g := gb222) (o := .cells #[.int .i64 x223000_2, .int .i64 x223001_2] 25 (0, 0)) (by (with_reducible repeat (first | refine bkN ?_ _ | refine bkD ?_ | refine bkA ?_ _)); refine bkf ?_ NB222_229.out _; (with_reducible repeat (first | refine bkN ?_ _ | refine bkD ?_ | refine bkA ?_ _)); refine bkf ?_ NB222_229.out _; (with_reducible repeat (first | refine bkN ?_ _ | refine bkD ?_ | refine bkA ?_ _)); exact BK222.out) hb); have n5_ := Az.mk (bkB (g := gb224) (o := .cells #[.int .i64 x225000_3, .int .i64 x225001_3] 25 (0, 0)) (by (with_reducible repeat (first | refine bkN ?_ _ | refine bkD ?_ | refine bkA ?_ _)); refine bkf ?_ NB224_229.out _; (with_reducible repeat (first | refine bkN ?_ _ | refine bkD ?_ | refine bkA ?_ _)); refine bkf ?_ NB224_229.out _; (with_reducible repeat (first | refine bkN ?_ _ | refine bkD ?_ | refine bkA ?_ _)); exact BK224.out) hb); have n6_ := Az.mk (bkB (g := gb229) (o := .cells #[.int .i64 ((rd_T25 t225 x34_3).f0), .int .i64 ((rd_T25 t225 x34_3).f1)] 25 (0, 0)) (by (with_reducible repeat (first | refine bkN ?_ _ | refine bkD ?_ | refine bkA ?_ _)); refine bkp (cs := #[.int .i64 ((rd_T25 t225 x34_3).f0), .int .i64 0]) ?_ 1 _ rfl; (with_reducible repeat (first | refine bkN ?_ _ | refine bkD ?_ | refine bkA ?_ _)); refine bkp (cs := #[.int .i64 0, .int .i64 0]) ?_ 0 _ rfl; (with_reducible repeat (first | refine bkN ?_ _ | refine bkD ?_ | refine bkA ?_ _)); exact BK229.out) hb); have n7_ := Az.mk (bwT (by repeat (first | (with_reducible first | exact HB.out | apply bwA | apply pbN | apply bwD | refine bwS ?_ GE215.out | refine bwS ?_ GE216.out | refine bwS ?_ GE222.out | refine bwS ?_ GE224.out | refine bwS ?_ GE229.out) | exact HB.out)) hb); clear HO_5; clear HO_32; clear BK215; clear BK216; clear BK222; clear BK224; clear BK229; clear HB; have HO_5 := n0_; have HO_32 := n1_; have BK215 := n2_; have BK216 := n3_; have BK222 := n4_; have BK224 := n5_; have BK229 := n6_; have HB := n7_; clear n0_ n1_ n2_ n3_ n4_ n5_ n6_ n7_; (try clear hb); (try clear hb2); (try clear hk); (try clear hi)))
             have n0_ := Az.mk (Kd.R_drew HO_5.out)
             have n1_ := Az.mk (Kd.R_drew HO_32.out)
             have n2_ := Az.mk (bkD BK215.out)
             have n3_ := Az.mk (bkD BK216.out)
             have n4_ := Az.mk (bkD BK222.out)
             have n5_ := Az.mk (bkD BK224.out)
             have n6_ := Az.mk (bkD BK229.out)
             have n7_ := Az.mk (bwD HB.out)
             clear HO_5
             clear HO_32
             clear BK215
             clear BK216
             clear BK222
             clear BK224
             clear BK229
             clear HB
             have HO_5 := n0_
             have HO_32 := n1_
             have BK215 := n2_
             have BK216 := n3_
             have BK222 := n4_
             have BK224 := n5_
             have BK229 := n6_
             have HB := n7_
             clear n0_ n1_ n2_ n3_ n4_ n5_ n6_ n7_
             refine start_ (n := 4) (S := fun w' => w'.cell? ⟨gb229, 0, none⟩ = some (.int .i64 ((rd_T25 t225 x34_3).f0)) ∧ w'.cell? ⟨gb229, 1, none⟩ = some (.int .i64 ((rd_T25 t225 x34_3).f1))) (ds := []) #[false, false, false, false] (by kernel_rfl) rfl rfl ⟨(bkC BK229.out 0).trans rfl, (bkC BK229.out 1).trans rfl⟩ (fun hHeld => ?_)
             generalize w59.drew = w60 at HO_5 HO_32 BK215 BK216 BK222 BK224 BK229 HB hHeld ⊢
             refine pure_ (i := 0) (N := some 44) (v := ?_) (a' := ?_) #[true, false, false, false] rfl rfl (by kernel_rfl) (fun _ _ _ h => h) (Or.inl ⟨by rfl, ?_⟩) ?_ ?_
             rotate_left
             ·intro w'
              go_simp
              with_reducible rfl
             rotate_left
             ·simp only [Act.put, List.setIfInBounds_toArray, List.set_cons_zero, List.set_cons_succ, i64_w, i32_w]
              rfl
             refine pure_ (i := 2) (N := some 8) (v := ?_) (a' := ?_) #[true, false, true, false] rfl rfl (by kernel_rfl) (fun _ _ _ h => h) (Or.inl ⟨by rfl, ?_⟩) ?_ ?_
             rotate_left
             ·intro w'
              go_simp
              with_reducible rfl
             rotate_left
             ·simp only [Act.put, List.setIfInBounds_toArray, List.set_cons_zero, List.set_cons_succ, i64_w, i32_w]
              rfl
             refine take_ (i := 1) (N := some 45) (v := ?_) (a' := ?_) #[true, true, true, false] rfl rfl (by kernel_rfl) (fun _ _ _ h => h) (Or.inl ⟨by rfl, ?_⟩) hHeld ?_ ?_
             rotate_left
             ·rintro w' ⟨s0, s1⟩
              go_simp
              with_reducible rfl
             rotate_left
             ·simp only [Act.put, List.setIfInBounds_toArray, List.set_cons_zero, List.set_cons_succ, i64_w, i32_w]
              rfl
             refine one_ (i := 3) (N := none) #[true, true, true, true] rfl rfl (by kernel_rfl) (by decide) (fun K hK => ?_)
             have hs61 : w60.cell? ⟨gb224, 0, none⟩ = some (.int .i64 x225000_3) := (bkC BK224.out 0).trans rfl
             have hfs61 := bkF BK224.out 0
             have hns61_0 := NB215_224.out
             have hns61_1 := NB216_224.out
             have hns61_2 := NB222_224.out
             have hns61_4 := NB229_224.out
             have hms61_0 := NB224_215.out
             have hms61_1 := NB224_216.out
             have hms61_2 := NB224_222.out
             have hms61_4 := NB224_229.out
             have hs62 : w60.cell? ⟨gb224, 1, none⟩ = some (.int .i64 x225001_3) := (bkC BK224.out 1).trans rfl
             have hfs62 := bkF BK224.out 1
             have hns62_0 := NB215_224.out
             have hns62_1 := NB216_224.out
             have hns62_2 := NB222_224.out
             have hns62_4 := NB229_224.out
             have hms62_0 := NB224_215.out
             have hms62_1 := NB224_216.out
             have hms62_2 := NB224_222.out
             have hms62_4 := NB224_229.out
             refine skip_ (w1 := ?_) (by rfl) rfl ?_ ?_
             rotate_left
             ·go_simp
              rfl
             refine hK.out _ _ ⟨((cell_far (p := ⟨gb224, _, none⟩) NB229_224.out _).trans (((cell_far (p := ⟨gb224, _, none⟩) NB229_224.out _).trans (hHeld.1)))), ((cell_far (p := ⟨gb224, _, none⟩) NB229_224.out _).trans (((cell_far (p := ⟨gb224, _, none⟩) NB229_224.out _).trans (hHeld.2))))⟩ (fun hHeld => ?_)
             clear hK K
             refine done_ (by kernel_rfl) ?_
             try go_wp2
             go_roundg k3
             case measure => have := HJ2.out; have := HK2.out; have := HK3.out; omega
             case rel => exact ⟨(t230), (wrap64 (x34_3 + 1)), ((rd_T25 t225 x34_3).f0), ((rd_T25 t225 x34_3).f1), (by first | rfl | (simp; done) | (simp [*]; done)), (by first | rfl | (simp; done) | (simp [*]; done)), H', ⟨by have := HJ2.out; have := HK2.out; have := HK3.out; omega⟩, ⟨by (with_reducible repeat (first | apply Kd.R_alloc | apply Kd.R_drewN | apply Kd.R_drew)); exact Kd.R_mono (Kd.R_far (p := ⟨gb224, 1, none⟩) (Kd.R_far (p := ⟨gb224, 0, none⟩) (Kd.R_mono HO_5.out (fun k_ hk => (⟨hk, hk.1.2.2.2.2⟩ : _ ∧ k_ ≠ gb224))) (fun _ hk => hk.2) (.int .i64 ((rd_T25 t225 x34_3).f0))) (fun _ hk => hk.2) (.int .i64 ((rd_T25 t225 x34_3).f1))) (fun _ hk => ⟨hk.1.1.1, ⟨hk.1.1.2.1, ⟨hk.1.1.2.2.1, ⟨hk.1.1.2.2.2.1, hk.1.1.2.2.2.2⟩⟩⟩⟩)⟩, ⟨by (with_reducible repeat (first | apply Kd.R_alloc | apply Kd.R_drewN | apply Kd.R_drew)); exact Kd.R_mono (Kd.R_far (p := ⟨gb224, 1, none⟩) (Kd.R_far (p := ⟨gb224, 0, none⟩) (Kd.R_mono HO_32.out (fun k_ hk => (⟨hk, hk.1.2.2.2.2⟩ : _ ∧ k_ ≠ gb224))) (fun _ hk => hk.2) (.int .i64 ((rd_T25 t225 x34_3).f0))) (fun _ hk => hk.2) (.int .i64 ((rd_T25 t225 x34_3).f1))) (fun _ hk => ⟨hk.1.1.1, ⟨hk.1.1.2.1, ⟨hk.1.1.2.2.1, ⟨hk.1.1.2.2.2.1, hk.1.1.2.2.2.2⟩⟩⟩⟩)⟩, ⟨by (with_reducible repeat (first | refine bkN ?_ _ | refine bkD ?_ | refine bkA ?_ _)); refine bkf ?_ NB215_224.out _; (with_reducible repeat (first | refine bkN ?_ _ | refine bkD ?_ | refine bkA ?_ _)); refine bkf ?_ NB215_224.out _; (with_reducible repeat (first | refine bkN ?_ _ | refine bkD ?_ | refine bkA ?_ _)); exact BK215.out⟩, ⟨by (with_reducible repeat (first | refine bkN ?_ _ | refine bkD ?_ | refine bkA ?_ _)); refine bkf ?_ NB216_224.out _; (with_reducible repeat (first | refine bkN ?_ _ | refine bkD ?_ | refine bkA ?_ _)); refine bkf ?_ NB216_224.out _; (with_reducible repeat (first | refine bkN ?_ _ | refine bkD ?_ | refine bkA ?_ _)); exact BK216.out⟩, ⟨by (with_reducible repeat (first | refine bkN ?_ _ | refine bkD ?_ | refine bkA ?_ _)); refine bkf ?_ NB222_224.out _; (with_reducible repeat (first | refine bkN ?_ _ | refine bkD ?_ | refine bkA ?_ _)); refine bkf ?_ NB222_224.out _; (with_reducible repeat (first | refine bkN ?_ _ | refine bkD ?_ | refine bkA ?_ _)); exact BK222.out⟩, ⟨by (with_reducible repeat (first | refine bkN ?_ _ | refine bkD ?_ | refine bkA ?_ _)); refine bkp (cs := #[.int .i64 ((rd_T25 t225 x34_3).f0), .int .i64 x225001_3]) ?_ 1 _ rfl; (with_reducible repeat (first | refine bkN ?_ _ | refine bkD ?_ | refine bkA ?_ _)); refine bkp (cs := #[.int .i64 x225000_3, .int .i64 x225001_3]) ?_ 0 _ rfl; (with_reducible repeat (first | refine bkN ?_ _ | refine bkD ?_ | refine bkA ?_ _)); exact BK224.out⟩, ⟨by repeat (first | (with_reducible first | exact HB.out | apply bwA | apply pbN | apply bwD | refine bwS ?_ GE215.out | refine bwS ?_ GE216.out | refine bwS ?_ GE222.out | refine bwS ?_ GE224.out | refine bwS ?_ GE229.out) | exact HB.out)⟩⟩
            ·rw [if_neg c48] at H
             have c48b0 : decide (t230 < x8_3) = false := decide_eq_false c48
             clear c48
             have H' := Az.mk H
             clear H
             have p228 : 0 ≤ (x34_3 : Int) := of_decide_eq_true (by first | (with_reducible assumption) | assumption)
             have q228 : x34_3 < (t225.length : Int) := of_decide_eq_true (by first | (with_reducible assumption) | assumption)
             obtain ⟨ad228, e228, hx228_0, hx228_1⟩ := at_T25 (Kd.R_reads' HO_32.out).2.2 x34_3 p228 q228
             cases e228
             replace p228 := eq_true p228
             replace q228 := eq_true q228
             go_wp2_with (first | ((with_reducible refine gtD (N := 11) rfl ?_); refine bxE ?hg (N := 11) ?hd (cs := #[.int .i64 0, .int .i64 0]) (t := 25) ?hr ?_; (case hd => rfl); (case hg => rfl); (case hr => first | (go_simp; done) | (go_simp; rfl)); intro gb229 hg w63 hbox hb; have n0_ := Az.mk (Kd.R_below (Kd.R_elderB (by (with_reducible repeat (first | apply Kd.R_alloc | apply Kd.R_drewN | apply Kd.R_drew)); exact HO_5.out) gb229 (Nat.le_of_eq hg.symm)) hb); have n1_ := Az.mk (Kd.R_below (Kd.R_elderB (by (with_reducible repeat (first | apply Kd.R_alloc | apply Kd.R_drewN | apply Kd.R_drew)); exact HO_32.out) gb229 (Nat.le_of_eq hg.symm)) hb); have n2_ := Az.mk (bkB (g := gb215) (o := .cells #[.int .i64 a0_0, .int .i64 a0_1] 25 (0, 0)) (by (with_reducible repeat (first | refine bkN ?_ _ | refine bkD ?_ | refine bkA ?_ _)); exact BK215.out) hb); have n3_ := Az.mk (bkB (g := gb216) (o := .cells #[.int .i64 a1_0, .int .i64 a1_1] 25 (0, 0)) (by (with_reducible repeat (first | refine bkN ?_ _ | refine bkD ?_ | refine bkA ?_ _)); exact BK216.out) hb); have n4_ := Az.mk (bkB (g := gb222) (o := .cells #[.int .i64 x223000_2, .int .i64 x223001_2] 25 (0, 0)) (by (with_reducible repeat (first | refine bkN ?_ _ | refine bkD ?_ | refine bkA ?_ _)); exact BK222.out) hb); have n5_ := Az.mk (bkB (g := gb224) (o := .cells #[.int .i64 x225000_3, .int .i64 x225001_3] 25 (0, 0)) (by (with_reducible repeat (first | refine bkN ?_ _ | refine bkD ?_ | refine bkA ?_ _)); exact BK224.out) hb); have n6_ := Az.mk (bwT (by repeat (first | (with_reducible first | exact HB.out | apply bwA | apply pbN | apply bwD | refine bwS ?_ GE215.out | refine bwS ?_ GE216.out | refine bwS ?_ GE222.out | refine bwS ?_ GE224.out) | exact HB.out)) hb); have n7_ := Az.mk (hbox); have n8_ := Az.mk ((by rw [hg]; exact (bwZ (by repeat (first | (with_reducible first | exact HB.out | apply bwA | apply pbN | apply bwD | refine bwS ?_ GE215.out | refine bwS ?_ GE216.out | refine bwS ?_ GE222.out | refine bwS ?_ GE224.out) | exact HB.out))) : w.heap.size ≤ gb229)); have n9_ := Az.mk ((by rw [hg]; exact (bwZ (by repeat (first | (with_reducible first | exact HB.out | apply bwA | apply pbN | apply bwD | refine bwS ?_ GE215.out | refine bwS ?_ GE216.out | refine bwS ?_ GE222.out | refine bwS ?_ GE224.out) | exact HB.out))) : w.heap.size ≤ gb229)); have n10_ := Az.mk ((by rw [hg]; exact Nat.ne_of_lt (blk_lt (g := gb215) (o := .cells #[.int .i64 a0_0, .int .i64 a0_1] 25 (0, 0)) (by (with_reducible repeat (first | refine bkN ?_ _ | refine bkD ?_ | refine bkA ?_ _)); exact BK215.out)) : gb215 ≠ gb229)); have n11_ := Az.mk ((by rw [hg]; exact Nat.ne_of_gt (blk_lt (g := gb215) (o := .cells #[.int .i64 a0_0, .int .i64 a0_1] 25 (0, 0)) (by (with_reducible repeat (first | refine bkN ?_ _ | refine bkD ?_ | refine bkA ?_ _)); exact BK215.out)) : gb229 ≠ gb215)); have n12_ := Az.mk ((by rw [hg]; exact Nat.ne_of_lt (blk_lt (g := gb216) (o := .cells #[.int .i64 a1_0, .int .i64 a1_1] 25 (0, 0)) (by (with_reducible repeat (first | refine bkN ?_ _ | refine bkD ?_ | refine bkA ?_ _)); exact BK216.out)) : gb216 ≠ gb229)); have n13_ := Az.mk ((by rw [hg]; exact Nat.ne_of_gt (blk_lt (g := gb216) (o := .cells #[.int .i64 a1_0, .int .i64 a1_1] 25 (0, 0)) (by (with_reducible repeat (first | refine bkN ?_ _ | refine bkD ?_ | refine bkA ?_ _)); exact BK216.out)) : gb229 ≠ gb216)); have n14_ := Az.mk ((by rw [hg]; exact Nat.ne_of_lt (blk_lt (g := gb222) (o := .cells #[.int .i64 x223000_2, .int .i64 x223001_2] 25 (0, 0)) (by (with_reducible repeat (first | refine bkN ?_ _ | refine bkD ?_ | refine bkA ?_ _)); exact BK222.out)) : gb222 ≠ gb229)); have n15_ := Az.mk ((by rw [hg]; exact Nat.ne_of_gt (blk_lt (g := gb222) (o := .cells #[.int .i64 x223000_2, .int .i64 x223001_2] 25 (0, 0)) (by (with_reducible repeat (first | refine bkN ?_ _ | refine bkD ?_ | refine bkA ?_ _)); exact BK222.out)) : gb229 ≠ gb222)); have n16_ := Az.mk ((by rw [hg]; exact Nat.ne_of_lt (blk_lt (g := gb224) (o := .cells #[.int .i64 x225000_3, .int .i64 x225001_3] 25 (0, 0)) (by (with_reducible repeat (first | refine bkN ?_ _ | refine bkD ?_ | refine bkA ?_ _)); exact BK224.out)) : gb224 ≠ gb229)); have n17_ := Az.mk ((by rw [hg]; exact Nat.ne_of_gt (blk_lt (g := gb224) (o := .cells #[.int .i64 x225000_3, .int .i64 x225001_3] 25 (0, 0)) (by (with_reducible repeat (first | refine bkN ?_ _ | refine bkD ?_ | refine bkA ?_ _)); exact BK224.out)) : gb229 ≠ gb224)); clear HO_5; clear HO_32; clear BK215; clear BK216; clear BK222; clear BK224; clear HB; have HO_5 := n0_; have HO_32 := n1_; have BK215 := n2_; have BK216 := n3_; have BK222 := n4_; have BK224 := n5_; have HB := n6_; have BK229 := n7_; have GW229 := n8_; have GE229 := n9_; have NB215_229 := n10_; have NB229_215 := n11_; have NB216_229 := n12_; have NB229_216 := n13_; have NB222_229 := n14_; have NB229_222 := n15_; have NB224_229 := n16_; have NB229_224 := n17_; clear n0_ n1_ n2_ n3_ n4_ n5_ n6_ n7_ n8_ n9_ n10_ n11_ n12_ n13_ n14_ n15_ n16_ n17_; clear hb hbox hg; have hnb64 := NB229_215.out; have hnc64 := NB215_229.out; have hnb65 := NB229_216.out; have hnc65 := NB216_229.out; have hnb66 := NB229_222.out; have hnc66 := NB222_229.out; have hnb67 := NB229_224.out; have hnc67 := NB224_229.out; have hcz68_0 : w63.cell? ⟨gb229, 0, none⟩ = some (.int .i64 0) := (bkC BK229.out 0).trans rfl; have hcz68_1 : w63.cell? ⟨gb229, 1, none⟩ = some (.int .i64 0) := (bkC BK229.out 1).trans rfl; have hfz68_0 := bkF BK229.out 0; have hfz68_1 := bkF BK229.out 1; have hnb69 := NB216_215.out; have hnc69 := NB215_216.out; have hnb70 := NB216_222.out; have hnc70 := NB222_216.out; have hnb71 := NB216_224.out; have hnc71 := NB224_216.out; have hcz72_0 : w63.cell? ⟨gb216, 0, none⟩ = some (.int .i64 a1_0) := (bkC BK216.out 0).trans rfl; have hcz72_1 : w63.cell? ⟨gb216, 1, none⟩ = some (.int .i64 a1_1) := (bkC BK216.out 1).trans rfl; have hfz72_0 := bkF BK216.out 0; have hfz72_1 := bkF BK216.out 1) | ((with_reducible refine gtC (f := 17) rfl ?_); refine goesL_ (some 40) rfl rfl Try.func17 (by kernel_rfl) rfl #[.agg #[.int .i64 ((rd_T25 t225 x34_3).f0), .int .i64 ((rd_T25 t225 x34_3).f1)], .agg #[.int .i64 a1_0, .int .i64 a1_1]] rfl (by (try simp only [List.map_toArray, List.map_cons, List.map_nil]); first | done | rfl | (simp only [List.length_drop, List.length_take]; rfl)) ?_; (with_reducible refine (impl_between.calls k3 ((rd_T25 t225 x34_3).f0) ((rd_T25 t225 x34_3).f1) a1_0 a1_1 t230 _ A47.out).mono ?_); rintro e w73 ⟨rfl, hb⟩; refine ⟨_, rfl, ?_⟩; have n0_ := Az.mk (Kd.R_below (by (with_reducible repeat (first | apply Kd.R_alloc | apply Kd.R_drewN | apply Kd.R_drew)); exact (Kd.R_mono (Kd.R_far (p := ⟨gb229, 1, none⟩) (Kd.R_far (p := ⟨gb229, 0, none⟩) (Kd.R_mono HO_5.out (fun k_ hk => (⟨hk, hk.2⟩ : _ ∧ k_ ≠ gb229))) (fun _ hk => hk.2) (.int .i64 ((rd_T25 t225 x34_3).f0))) (fun _ hk => hk.2) (.int .i64 ((rd_T25 t225 x34_3).f1))) (fun _ h_ => h_.1))) hb); have n1_ := Az.mk (Kd.R_below (by (with_reducible repeat (first | apply Kd.R_alloc | apply Kd.R_drewN | apply Kd.R_drew)); exact (Kd.R_mono (Kd.R_far (p := ⟨gb229, 1, none⟩) (Kd.R_far (p := ⟨gb229, 0, none⟩) (Kd.R_mono HO_32.out (fun k_ hk => (⟨hk, hk.2⟩ : _ ∧ k_ ≠ gb229))) (fun _ hk => hk.2) (.int .i64 ((rd_T25 t225 x34_3).f0))) (fun _ hk => hk.2) (.int .i64 ((rd_T25 t225 x34_3).f1))) (fun _ h_ => h_.1))) hb); have n2_ := Az.mk (bkB (g := gb215) (o := .cells #[.int .i64 a0_0, .int .i64 a0_1] 25 (0, 0)) (by (with_reducible repeat (first | refine bkN ?_ _ | refine bkD ?_ | refine bkA ?_ _)); refine bkf ?_ NB215_229.out _; (with_reducible repeat (first | refine bkN ?_ _ | refine bkD ?_ | refine bkA ?_ _)); refine bkf ?_ NB215_229.out _; (with_reducible repeat (first | refine bkN ?_ _ | refine bkD ?_ | refine bkA ?_ _)); exact BK215.out) hb); have n3_ := Az.mk (bkB (g := gb216) (o := .cells #[.int .i64 a1_0, .int .i64 a1_1] 25 (0, 0)) (by (with_reducible repeat (first | refine bkN ?_ _ | refine bkD ?_ | refine bkA ?_ _)); refine bkf ?_ NB216_229.out _; (with_reducible repeat (first | refine bkN ?_ _ | refine bkD ?_ | refine bkA ?_ _)); refine bkf ?_ NB216_229.out _; (with_reducible repeat (first | refine bkN ?_ _ | refine bkD ?_ | refine bkA ?_ _)); exact BK216.out) hb); have n4_ := Az.mk (bkB (g := gb222) (o := .cells #[.int .i64 x223000_2, .int .i64 x223001_2] 25 (0, 0)) (by (with_reducible repeat (first | refine bkN ?_ _ | refine bkD ?_ | refine bkA ?_ _)); refine bkf ?_ NB222_229.out _; (with_reducible repeat (first | refine bkN ?_ _ | refine bkD ?_ | refine bkA ?_ _)); refine bkf ?_ NB222_229.out _; (with_reducible repeat (first | refine bkN ?_ _ | refine bkD ?_ | refine bkA ?_ _)); exact BK222.out) hb); have n5_ := Az.mk (bkB (g := gb224) (o := .cells #[.int .i64 x225000_3, .int .i64 x225001_3] 25 (0, 0)) (by (with_reducible repeat (first | refine bkN ?_ _ | refine bkD ?_ | refine bkA ?_ _)); refine bkf ?_ NB224_229.out _; (with_reducible repeat (first | refine bkN ?_ _ | refine bkD ?_ | refine bkA ?_ _)); refine bkf ?_ NB224_229.out _; (with_reducible repeat (first | refine bkN ?_ _ | refine bkD ?_ | refine bkA ?_ _)); exact BK224.out) hb); have n6_ := Az.mk (bkB (g := gb229) (o := .cells #[.int .i64 ((rd_T25 t225 x34_3).f0), .int .i64 ((rd_T25 t225 x34_3).f1)] 25 (0, 0)) (by (with_reducible repeat (first | refine bkN ?_ _ | refine bkD ?_ | refine bkA ?_ _)); refine bkp (cs := #[.int .i64 ((rd_T25 t225 x34_3).f0), .int .i64 0]) ?_ 1 _ rfl; (with_reducible repeat (first | refine bkN ?_ _ | refine bkD ?_ | refine bkA ?_ _)); refine bkp (cs := #[.int .i64 0, .int .i64 0]) ?_ 0 _ rfl; (with_reducible repeat (first | refine bkN ?_ _ | refine bkD ?_ | refine bkA ?_ _)); exact BK229.out) hb); have n7_ := Az.mk (bwT (by repeat (first | (with_reducible first | exact HB.out | apply bwA | apply pbN | apply bwD | refine bwS ?_ GE215.out | refine bwS ?_ GE216.out | refine bwS ?_ GE222.out | refine bwS ?_ GE224.out | refine bwS ?_ GE229.out) | exact HB.out)) hb); clear HO_5; clear HO_32; clear BK215; clear BK216; clear BK222; clear BK224; clear BK229; clear HB; have HO_5 := n0_; have HO_32 := n1_; have BK215 := n2_; have BK216 := n3_; have BK222 := n4_; have BK224 := n5_; have BK229 := n6_; have HB := n7_; clear n0_ n1_ n2_ n3_ n4_ n5_ n6_ n7_; (try clear hb); (try clear hb2); (try clear hk); (try clear hi)))
             go_roundg k3
             case measure => have := HJ2.out; have := HK2.out; have := HK3.out; omega
             case rel => exact ⟨(x8_3), (wrap64 (x34_3 + 1)), (x225000_3), (x225001_3), (by first | rfl | (simp; done) | (simp [*]; done)), (by first | rfl | (simp; done) | (simp [*]; done)), H', ⟨by have := HJ2.out; have := HK2.out; have := HK3.out; omega⟩, ⟨by (with_reducible repeat (first | apply Kd.R_alloc | apply Kd.R_drewN | apply Kd.R_drew)); exact Kd.R_mono HO_5.out (fun _ hk => ⟨hk.1.1, ⟨hk.1.2.1, ⟨hk.1.2.2.1, ⟨hk.1.2.2.2.1, hk.1.2.2.2.2⟩⟩⟩⟩)⟩, ⟨by (with_reducible repeat (first | apply Kd.R_alloc | apply Kd.R_drewN | apply Kd.R_drew)); exact Kd.R_mono HO_32.out (fun _ hk => ⟨hk.1.1, ⟨hk.1.2.1, ⟨hk.1.2.2.1, ⟨hk.1.2.2.2.1, hk.1.2.2.2.2⟩⟩⟩⟩)⟩, ⟨by (with_reducible repeat (first | refine bkN ?_ _ | refine bkD ?_ | refine bkA ?_ _)); exact BK215.out⟩, ⟨by (with_reducible repeat (first | refine bkN ?_ _ | refine bkD ?_ | refine bkA ?_ _)); exact BK216.out⟩, ⟨by (with_reducible repeat (first | refine bkN ?_ _ | refine bkD ?_ | refine bkA ?_ _)); exact BK222.out⟩, ⟨by (with_reducible repeat (first | refine bkN ?_ _ | refine bkD ?_ | refine bkA ?_ _)); exact BK224.out⟩, ⟨by repeat (first | (with_reducible first | exact HB.out | apply bwA | apply pbN | apply bwD | refine bwS ?_ GE215.out | refine bwS ?_ GE216.out | refine bwS ?_ GE222.out | refine bwS ?_ GE224.out | refine bwS ?_ GE229.out) | exact HB.out)⟩⟩
           ·rw [if_neg c46] at H
            exact absurd H (by simp)
          ·rw [if_neg c45] at H
           exact absurd H (by simp)
         ·rw [if_neg c44] at H
          have c44b0 : decide (x34_3 < (t225.length : Int)) = false := decide_eq_false c44
          clear c44
          by_cases c74 : x8_3 = x7_2
          ·rw [if_pos c74] at H
           have c74b0 : (x8_3 == x7_2) = true := beq_iff_eq.mpr c74
           have c74b1 : (x8_3 != x7_2) = false := bne_eq_false_iff_eq.mpr c74
           clear c74
           obtain rfl := Option.some.inj H
           go_wp2
           go_ret
           exact ⟨_, by first | rfl | (simp [eWn, eWs] <;> rfl) | (simp [*, eWn, eWs] <;> rfl), by first | exact Kd.R_nil _ _ _ _ _ | exact Kd.N_nil _ _ _ _ _ | exact Kd.V_nil _ _ _ _ _ | exact Kd.Q_nil _ _ _ _ _ | exact Kd.S_nil _ _ _ _ _, by repeat (first | (with_reducible first | exact HB.out | apply bwA | apply pbN | apply bwD | refine bwS ?_ GE215.out | refine bwS ?_ GE216.out | refine bwS ?_ GE222.out | refine bwS ?_ GE224.out) | exact HB.out)⟩
          ·rw [if_neg c74] at H
           have c74b0 : (x8_3 == x7_2) = false := beq_eq_false_iff_ne.mpr c74
           have c74b1 : (x8_3 != x7_2) = true := bne_iff_ne.mpr c74
           by_cases c75 : x5_2.length < 8796093022208
           ·rw [if_pos c75] at H
            have LMc75 := Az.mk c75
            clear c75
            obtain ⟨y231, hy231⟩ : ∃ y_ : List (S25), y_ = (x5_2 ++ [(⟨x225000_3, x225001_3⟩ : S25)]) := ⟨_, rfl⟩
            replace H : (impl_StepsBetween.l0 k3 y231 x8_3 a1_0 a1_1 x225000_3 x225001_3) = some r := by first | (rw [hy231]; with_reducible exact H) | (have H2_ := (Option.bind_some _ _).symm.trans H; rw [hy231]; with_reducible exact H2_) | (have H2_ := (Option.bind_some _ _).symm.trans H; with_reducible exact H2_) | with_reducible exact H | (rw [hy231]; exact H) | exact H
            have Ny231 := Az.mk hy231
            clear hy231
            have H' := Az.mk H
            clear H
            try go_wp2
            have n0_ := Az.mk (Kd.R_drew HO_5.out)
            have n1_ := Az.mk (Kd.R_drew HO_32.out)
            have n2_ := Az.mk (bkD BK215.out)
            have n3_ := Az.mk (bkD BK216.out)
            have n4_ := Az.mk (bkD BK222.out)
            have n5_ := Az.mk (bkD BK224.out)
            have n6_ := Az.mk (bwD HB.out)
            clear HO_5
            clear HO_32
            clear BK215
            clear BK216
            clear BK222
            clear BK224
            clear HB
            have HO_5 := n0_
            have HO_32 := n1_
            have BK215 := n2_
            have BK216 := n3_
            have BK222 := n4_
            have BK224 := n5_
            have HB := n6_
            clear n0_ n1_ n2_ n3_ n4_ n5_ n6_
            refine start_ (n := 4) (S := fun w' => w'.cell? ⟨gb224, 0, none⟩ = some (.int .i64 x225000_3) ∧ w'.cell? ⟨gb224, 1, none⟩ = some (.int .i64 x225001_3)) (ds := []) #[false, false, false, false] (by kernel_rfl) rfl rfl ⟨(bkC BK224.out 0).trans rfl, (bkC BK224.out 1).trans rfl⟩ (fun hHeld => ?_)
            generalize wr.drew = w76 at HO_5 HO_32 BK215 BK216 BK222 BK224 HB hHeld ⊢
            refine pure_ (i := 0) (N := some 50) (v := ?_) (a' := ?_) #[true, false, false, false] rfl rfl (by kernel_rfl) (fun _ _ _ h => h) (Or.inl ⟨by rfl, ?_⟩) ?_ ?_
            rotate_left
            ·intro w'
             go_simp
             with_reducible rfl
            rotate_left
            ·simp only [Act.put, List.setIfInBounds_toArray, List.set_cons_zero, List.set_cons_succ, i64_w, i32_w]
             rfl
            refine pure_ (i := 2) (N := some 7) (v := ?_) (a' := ?_) #[true, false, true, false] rfl rfl (by kernel_rfl) (fun _ _ _ h => h) (Or.inl ⟨by rfl, ?_⟩) ?_ ?_
            rotate_left
            ·intro w'
             go_simp
             with_reducible rfl
            rotate_left
            ·simp only [Act.put, List.setIfInBounds_toArray, List.set_cons_zero, List.set_cons_succ, i64_w, i32_w]
             rfl
            refine take_ (i := 1) (N := some 51) (v := ?_) (a' := ?_) #[true, true, true, false] rfl rfl (by kernel_rfl) (fun _ _ _ h => h) (Or.inl ⟨by rfl, ?_⟩) hHeld ?_ ?_
            rotate_left
            ·rintro w' ⟨s0, s1⟩
             go_simp
             with_reducible rfl
            rotate_left
            ·simp only [Act.put, List.setIfInBounds_toArray, List.set_cons_zero, List.set_cons_succ, i64_w, i32_w]
             rfl
            refine one_ (i := 3) (N := none) #[true, true, true, true] rfl rfl (by kernel_rfl) (by decide) (fun K hK => ?_)
            have hs77 : w76.cell? ⟨gb222, 0, none⟩ = some (.int .i64 x223000_2) := (bkC BK222.out 0).trans rfl
            have hfs77 := bkF BK222.out 0
            have hns77_0 := NB215_222.out
            have hns77_1 := NB216_222.out
            have hns77_3 := NB224_222.out
            have hms77_0 := NB222_215.out
            have hms77_1 := NB222_216.out
            have hms77_3 := NB222_224.out
            have hs78 : w76.cell? ⟨gb222, 1, none⟩ = some (.int .i64 x223001_2) := (bkC BK222.out 1).trans rfl
            have hfs78 := bkF BK222.out 1
            have hns78_0 := NB215_222.out
            have hns78_1 := NB216_222.out
            have hns78_3 := NB224_222.out
            have hms78_0 := NB222_215.out
            have hms78_1 := NB222_216.out
            have hms78_3 := NB222_224.out
            refine skip_ (w1 := ?_) (by rfl) rfl ?_ ?_
            rotate_left
            ·go_simp
             rfl
            refine hK.out _ _ ⟨((cell_far (p := ⟨gb222, _, none⟩) NB224_222.out _).trans (((cell_far (p := ⟨gb222, _, none⟩) NB224_222.out _).trans (hHeld.1)))), ((cell_far (p := ⟨gb222, _, none⟩) NB224_222.out _).trans (((cell_far (p := ⟨gb222, _, none⟩) NB224_222.out _).trans (hHeld.2))))⟩ (fun hHeld => ?_)
            clear hK K
            refine done_ (by kernel_rfl) ?_
            have hnb79 := NB222_215.out
            have hnc79 := NB215_222.out
            have hnb80 := NB222_216.out
            have hnc80 := NB216_222.out
            have hnb81 := NB222_224.out
            have hnc81 := NB224_222.out
            have hcz82_0 : w76.cell? ⟨gb222, 0, none⟩ = some (.int .i64 x223000_2) := (bkC BK222.out 0).trans rfl
            have hcz82_1 : w76.cell? ⟨gb222, 1, none⟩ = some (.int .i64 x223001_2) := (bkC BK222.out 1).trans rfl
            have hfz82_0 := bkF BK222.out 0
            have hfz82_1 := bkF BK222.out 1
            try go_wp2_with (first | ((with_reducible refine gate_builtin (b := .append) (xs := #[.tmp 52, .tmp 54]) rfl ?_); at_builtin; refine Kd.R_append k25 (w0 := w) w.heap.size rfl (.tmp 52) (.tmp 54) 28 25 (.agg #[(.int .i64 0), (.int .i64 0)]) 16 rfl Try.underlying28 info25 rfl (by decide) (by omega) u5 x5_2 (⟨x225000_3, x225001_3⟩ : S25) [.int .i64 x225000_3, .int .i64 x225001_3] (fun k_ => some k_ ≠ (.slice Ao43 t225.length co43 : Value).ownBlock ∧ k_ ≠ gb215 ∧ k_ ≠ gb216 ∧ k_ ≠ gb222 ∧ k_ ≠ gb224) (fun _ => False) rfl (by first | (go_simp; done) | (go_simp; rfl)) ?aP (fun _ hk => hk.elim) ?aF ?aO ?aB ?aS ?aL ?_; (case aP => exact k25_mkM _ _ _ (⟨x225000_3, x225001_3⟩ : S25)); (case aB => exact (by repeat (first | (with_reducible first | exact HB.out | apply bwA | apply pbN | apply bwD | refine bwS ?_ GE215.out | refine bwS ?_ GE216.out | refine bwS ?_ GE222.out | refine bwS ?_ GE224.out) | exact HB.out))); (case aF => exact (fun k_ hk => ⟨Kd.fresh' (Kd.R_lt (by (with_reducible repeat (first | apply Kd.R_alloc | apply Kd.R_drewN | apply Kd.R_drew)); exact (Kd.R_mono (Kd.R_far (p := ⟨gb222, 1, none⟩) (Kd.R_far (p := ⟨gb222, 0, none⟩) (Kd.R_mono HO_32.out (fun k_ hk => (⟨hk, hk.2.2.2.1⟩ : _ ∧ k_ ≠ gb222))) (fun _ hk => hk.2) (.int .i64 x225000_3)) (fun _ hk => hk.2) (.int .i64 x225001_3)) (fun _ h_ => h_.1)))) k_ hk, Kd.freshB (g := gb215) (o := .cells #[.int .i64 a0_0, .int .i64 a0_1] 25 (0, 0)) (by (with_reducible repeat (first | refine bkN ?_ _ | refine bkD ?_ | refine bkA ?_ _)); refine bkf ?_ NB215_222.out _; (with_reducible repeat (first | refine bkN ?_ _ | refine bkD ?_ | refine bkA ?_ _)); refine bkf ?_ NB215_222.out _; (with_reducible repeat (first | refine bkN ?_ _ | refine bkD ?_ | refine bkA ?_ _)); exact BK215.out) k_ hk, Kd.freshB (g := gb216) (o := .cells #[.int .i64 a1_0, .int .i64 a1_1] 25 (0, 0)) (by (with_reducible repeat (first | refine bkN ?_ _ | refine bkD ?_ | refine bkA ?_ _)); refine bkf ?_ NB216_222.out _; (with_reducible repeat (first | refine bkN ?_ _ | refine bkD ?_ | refine bkA ?_ _)); refine bkf ?_ NB216_222.out _; (with_reducible repeat (first | refine bkN ?_ _ | refine bkD ?_ | refine bkA ?_ _)); exact BK216.out) k_ hk, Kd.freshB (g := gb222) (o := .cells #[.int .i64 x225000_3, .int .i64 x225001_3] 25 (0, 0)) (by (with_reducible repeat (first | refine bkN ?_ _ | refine bkD ?_ | refine bkA ?_ _)); refine bkp (cs := #[.int .i64 x225000_3, .int .i64 x223001_2]) ?_ 1 _ rfl; (with_reducible repeat (first | refine bkN ?_ _ | refine bkD ?_ | refine bkA ?_ _)); refine bkp (cs := #[.int .i64 x223000_2, .int .i64 x223001_2]) ?_ 0 _ rfl; (with_reducible repeat (first | refine bkN ?_ _ | refine bkD ?_ | refine bkA ?_ _)); exact BK222.out) k_ hk, Kd.freshB (g := gb224) (o := .cells #[.int .i64 x225000_3, .int .i64 x225001_3] 25 (0, 0)) (by (with_reducible repeat (first | refine bkN ?_ _ | refine bkD ?_ | refine bkA ?_ _)); refine bkf ?_ NB224_222.out _; (with_reducible repeat (first | refine bkN ?_ _ | refine bkD ?_ | refine bkA ?_ _)); refine bkf ?_ NB224_222.out _; (with_reducible repeat (first | refine bkN ?_ _ | refine bkD ?_ | refine bkA ?_ _)); exact BK224.out) k_ hk⟩)); (case aO => exact (by (with_reducible repeat (first | apply Kd.R_alloc | apply Kd.R_drewN | apply Kd.R_drew)); exact Kd.R_mono (Kd.R_far (p := ⟨gb222, 1, none⟩) (Kd.R_far (p := ⟨gb222, 0, none⟩) (Kd.R_mono HO_5.out (fun k_ hk => (⟨hk, hk.2.2.2.1⟩ : _ ∧ k_ ≠ gb222))) (fun _ hk => hk.2) (.int .i64 x225000_3)) (fun _ hk => hk.2) (.int .i64 x225001_3)) (fun _ hk => ⟨hk.1.1, ⟨hk.1.2.1, ⟨hk.1.2.2.1, ⟨hk.1.2.2.2.1, hk.1.2.2.2.2⟩⟩⟩⟩))); (case aS => exact (bwZ (by repeat (first | (with_reducible first | exact HB.out | apply bwA | apply pbN | apply bwD | refine bwS ?_ GE215.out | refine bwS ?_ GE216.out | refine bwS ?_ GE222.out | refine bwS ?_ GE224.out) | exact HB.out)))); (case aL => have := LMc75.out; omega); intro v232 w83 ho hb hg hat; rw [← Ny231.out] at ho; have n0_ := Az.mk (Kd.R_after (ok := (fun k_ => k_ ≠ gb215 ∧ k_ ≠ gb216 ∧ k_ ≠ gb222 ∧ k_ ≠ gb224)) (by (with_reducible repeat (first | apply Kd.R_alloc | apply Kd.R_drewN | apply Kd.R_drew)); exact Kd.R_mono (Kd.R_far (p := ⟨gb222, 1, none⟩) (Kd.R_far (p := ⟨gb222, 0, none⟩) (Kd.R_mono HO_32.out (fun k_ hk => (⟨hk, hk.2.2.2.1⟩ : _ ∧ k_ ≠ gb222))) (fun _ hk => hk.2) (.int .i64 x225000_3)) (fun _ hk => hk.2) (.int .i64 x225001_3)) (fun _ hk => ⟨⟨hk.1.2.1, ⟨hk.1.2.2.1, ⟨hk.1.2.2.2.1, hk.1.2.2.2.2⟩⟩⟩, hk.1.1⟩)) hg hat); have n1_ := Az.mk (blk_grown (g := gb215) (o := .cells #[.int .i64 a0_0, .int .i64 a0_1] 25 (0, 0)) (by (with_reducible repeat (first | refine bkN ?_ _ | refine bkD ?_ | refine bkA ?_ _)); refine bkf ?_ NB215_222.out _; (with_reducible repeat (first | refine bkN ?_ _ | refine bkD ?_ | refine bkA ?_ _)); refine bkf ?_ NB215_222.out _; (with_reducible repeat (first | refine bkN ?_ _ | refine bkD ?_ | refine bkA ?_ _)); exact BK215.out) hg (Kd.R_away HO_5.out (fun _ hk => hk.2.1))); have n2_ := Az.mk (blk_grown (g := gb216) (o := .cells #[.int .i64 a1_0, .int .i64 a1_1] 25 (0, 0)) (by (with_reducible repeat (first | refine bkN ?_ _ | refine bkD ?_ | refine bkA ?_ _)); refine bkf ?_ NB216_222.out _; (with_reducible repeat (first | refine bkN ?_ _ | refine bkD ?_ | refine bkA ?_ _)); refine bkf ?_ NB216_222.out _; (with_reducible repeat (first | refine bkN ?_ _ | refine bkD ?_ | refine bkA ?_ _)); exact BK216.out) hg (Kd.R_away HO_5.out (fun _ hk => hk.2.2.1))); have n3_ := Az.mk (blk_grown (g := gb222) (o := .cells #[.int .i64 x225000_3, .int .i64 x225001_3] 25 (0, 0)) (by (with_reducible repeat (first | refine bkN ?_ _ | refine bkD ?_ | refine bkA ?_ _)); refine bkp (cs := #[.int .i64 x225000_3, .int .i64 x223001_2]) ?_ 1 _ rfl; (with_reducible repeat (first | refine bkN ?_ _ | refine bkD ?_ | refine bkA ?_ _)); refine bkp (cs := #[.int .i64 x223000_2, .int .i64 x223001_2]) ?_ 0 _ rfl; (with_reducible repeat (first | refine bkN ?_ _ | refine bkD ?_ | refine bkA ?_ _)); exact BK222.out) hg (Kd.R_away HO_5.out (fun _ hk => hk.2.2.2.1))); have n4_ := Az.mk (blk_grown (g := gb224) (o := .cells #[.int .i64 x225000_3, .int .i64 x225001_3] 25 (0, 0)) (by (with_reducible repeat (first | refine bkN ?_ _ | refine bkD ?_ | refine bkA ?_ _)); refine bkf ?_ NB224_222.out _; (with_reducible repeat (first | refine bkN ?_ _ | refine bkD ?_ | refine bkA ?_ _)); refine bkf ?_ NB224_222.out _; (with_reducible repeat (first | refine bkN ?_ _ | refine bkD ?_ | refine bkA ?_ _)); exact BK224.out) hg (Kd.R_away HO_5.out (fun _ hk => hk.2.2.2.2))); have n5_ := Az.mk (hb); have n6_ := Az.mk (ho); clear HO_32; clear BK215; clear BK216; clear BK222; clear BK224; clear HB; clear HO_5; have HO_32 := n0_; have BK215 := n1_; have BK216 := n2_; have BK222 := n3_; have BK224 := n4_; have HB := n5_; have HO233 := n6_; clear n0_ n1_ n2_ n3_ n4_ n5_ n6_; clear ho hb hg hat))
            go_roundg k3
            case measure => have := HJ2.out; have := HK2.out; have := HK3.out; omega
            case rel => exact ⟨(y231), (x8_3), (x225000_3), (x225001_3), (by first | rfl | (simp; done) | (simp [*]; done)), H', ⟨by have := HJ2.out; have := HK2.out; have := HK3.out; omega⟩, ⟨by (with_reducible repeat (first | apply Kd.R_alloc | apply Kd.R_drewN | apply Kd.R_drew)); exact Kd.R_mono HO233.out (fun _ hk => ⟨hk.2.1, ⟨hk.2.2.1, hk.2.2.2.1⟩⟩)⟩, ⟨by (with_reducible repeat (first | refine bkN ?_ _ | refine bkD ?_ | refine bkA ?_ _)); exact BK215.out⟩, ⟨by (with_reducible repeat (first | refine bkN ?_ _ | refine bkD ?_ | refine bkA ?_ _)); exact BK216.out⟩, ⟨by (with_reducible repeat (first | refine bkN ?_ _ | refine bkD ?_ | refine bkA ?_ _)); exact BK222.out⟩, ⟨by repeat (first | (with_reducible first | exact HB.out | apply bwA | apply pbN | apply bwD | refine bwS ?_ GE215.out | refine bwS ?_ GE216.out | refine bwS ?_ GE222.out | refine bwS ?_ GE224.out) | exact HB.out)⟩⟩
           ·rw [if_neg c75] at H
            exact absurd H (by simp)
      ·rw [if_neg c32] at H
       have c32b0 : decide (0 < x7_2) = false := decide_eq_false c32
       clear c32
       obtain rfl := Option.some.inj H
       go_wp2
       go_ret
       exact ⟨_, by first | rfl | (simp [eWn, eWs] <;> rfl) | (simp [*, eWn, eWs] <;> rfl), by (with_reducible repeat (first | apply Kd.R_alloc | apply Kd.R_drewN | apply Kd.R_drew)); exact Kd.R_mono HO_5.out (fun _ hk => trivial), by repeat (first | (with_reducible first | exact HB.out | apply bwA | apply pbN | apply bwD | refine bwS ?_ GE215.out | refine bwS ?_ GE216.out | refine bwS ?_ GE222.out) | exact HB.out)⟩

end Go.Proofs.Ytkblceinidiidaa.P
