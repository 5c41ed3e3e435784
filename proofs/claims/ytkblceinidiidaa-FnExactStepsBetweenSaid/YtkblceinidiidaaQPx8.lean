-- By this session's driver (wip/tools/mk.py) of the kit's print program, over several statements at once. Not trusted: Lean checks it.
import Derived.Test.YtkblceinidiidaaQPx0
import Derived.Test.YtkblceinidiidaaQPx1
import Derived.Test.YtkblceinidiidaaQPx3
import Derived.Test.YtkblceinidiidaaQPx7
namespace Go.Proofs.Ytkblceinidiidaa.P
open Go.RowKit Go.Proofs.YtkblceinidiidaaW.PrintWords Go.Proofs.YtkblceinidiidaaW.PrintLast Go.Proofs.YtkblceinidiidaaW.PrintMore
attribute [local go_sem] max2_int min2_int max_two min_two max_three min_three max_four min_four   -- for this text's walks alone
set_option linter.unusedVariables false
set_option linter.unusedSimpArgs false

attribute [local go_sem high] eqA25
/-! ### spec_StepsBetween: function 8 -/
mutual
def spec_StepsBetween.j0 : Nat → Bool → Int → Int → Int → Int → Option ((List (S25)))
 | 0, _, _, _, _, _ => none
 | k + 1, x18, x169000, x169001, x170000, x170001 => if x18 = true then (some (([] : List (S25)))) else ((spec_l14All.f k 60).bind fun t178 => (spec_StepsBetween.l0 k (([(⟨x169000, x169001⟩ : S25)] : List (S25))) t178 x170000 x170001))
def spec_StepsBetween.l0 : Nat → List (S25) → List (S25) → Int → Int → Option ((List (S25)))
 | 0, _, _, _, _ => none
 | k + 1, x5, x6, x170000, x170001 => if 0 ≤ (wrap64 ((x5.length : Int) - 1)) then (if (wrap64 ((x5.length : Int) - 1)) < (x5.length : Int) then (if (!(((rd_T25 x5 (wrap64 ((x5.length : Int) - 1))).f0) == x170000) || (!(((rd_T25 x5 (wrap64 ((x5.length : Int) - 1))).f1) == x170001))) = true then ((spec_SlopeDistance.f k ((rd_T25 x5 (wrap64 ((x5.length : Int) - 1))).f0) ((rd_T25 x5 (wrap64 ((x5.length : Int) - 1))).f1) x170000 x170001).bind fun t184 => (spec_StepsBetween.l1 k x5 x6 t184 0 x170000 x170001 ((rd_T25 x5 (wrap64 ((x5.length : Int) - 1))).f0) ((rd_T25 x5 (wrap64 ((x5.length : Int) - 1))).f1) ((rd_T25 x5 (wrap64 ((x5.length : Int) - 1))).f0) ((rd_T25 x5 (wrap64 ((x5.length : Int) - 1))).f1))) else (some x5)) else (none)) else (none)
def spec_StepsBetween.l1 : Nat → List (S25) → List (S25) → Int → Int → Int → Int → Int → Int → Int → Int → Option ((List (S25)))
 | 0, _, _, _, _, _, _, _, _, _, _ => none
 | k + 1, x5, x6, x8, x10, x170000, x170001, x184000, x184001, x186000, x186001 => if x10 < (x6.length : Int) then (if 0 ≤ x10 then ((spec_CrossNumber.f k x184000 x184001 ((rd_T25 x6 x10).f0) ((rd_T25 x6 x10).f1)).bind fun t193 => (if t193 = 1 then ((spec_SlopeDistance.f k ((rd_T25 x6 x10).f0) ((rd_T25 x6 x10).f1) x170000 x170001).bind fun t195 => (if t195 < x8 then ((spec_SlopeDistance.f k ((rd_T25 x6 x10).f0) ((rd_T25 x6 x10).f1) x170000 x170001).bind fun t197 => (spec_StepsBetween.l1 k x5 x6 t197 (wrap64 (x10 + 1)) x170000 x170001 x184000 x184001 ((rd_T25 x6 x10).f0) ((rd_T25 x6 x10).f1))) else (spec_StepsBetween.l1 k x5 x6 x8 (wrap64 (x10 + 1)) x170000 x170001 x184000 x184001 x186000 x186001))) else (spec_StepsBetween.l1 k x5 x6 x8 (wrap64 (x10 + 1)) x170000 x170001 x184000 x184001 x186000 x186001))) else (none)) else (if (x186000 == x184000 && (x186001 == x184001)) = true then (some (([] : List (S25)))) else (if x5.length < 8796093022208 then (spec_StepsBetween.l0 k (x5 ++ [(⟨x186000, x186001⟩ : S25)]) x6 x170000 x170001) else (none)))
end
def spec_StepsBetween.f (k : Nat) (a0_0 : Int) (a0_1 : Int) (a1_0 : Int) (a1_1 : Int) : Option ((List (S25))) := (spec_l14Small.f k a0_0 a0_1).bind fun t170 => (if t170 = true then ((spec_l14Small.f k a1_0 a1_1).bind fun t171 => (spec_StepsBetween.j0 k (!t171) a0_0 a0_1 a1_0 a1_1)) else (spec_StepsBetween.j0 k true a0_0 a0_1 a1_0 a1_1))
theorem spec_StepsBetween.mono_l : ∀ k, (∀ y0 y1 y2 y3 y4, LeO (spec_StepsBetween.j0 k y0 y1 y2 y3 y4) (spec_StepsBetween.j0 (k + 1) y0 y1 y2 y3 y4)) ∧ (∀ y0 y1 y2 y3, LeO (spec_StepsBetween.l0 k y0 y1 y2 y3) (spec_StepsBetween.l0 (k + 1) y0 y1 y2 y3)) ∧ (∀ y0 y1 y2 y3 y4 y5 y6 y7 y8 y9, LeO (spec_StepsBetween.l1 k y0 y1 y2 y3 y4 y5 y6 y7 y8 y9) (spec_StepsBetween.l1 (k + 1) y0 y1 y2 y3 y4 y5 y6 y7 y8 y9))
 | 0 => ⟨fun _ _ _ _ _ r h => by simp [spec_StepsBetween.j0] at h, fun _ _ _ _ r h => by simp [spec_StepsBetween.l0] at h, fun _ _ _ _ _ _ _ _ _ _ r h => by simp [spec_StepsBetween.l1] at h⟩
 | k + 1 => by
  obtain ⟨ih0, ih1, ih2⟩ := spec_StepsBetween.mono_l k
  refine ⟨?_, ?_, ?_⟩
  ·intro y0 y1 y2 y3 y4
   unfold spec_StepsBetween.j0
   repeat' first
   | (with_reducible exact ih0 _ _ _ _ _)
   | (with_reducible exact ih1 _ _ _ _)
   | (with_reducible exact ih2 _ _ _ _ _ _ _ _ _ _)
   | (with_reducible exact spec_CrossNumber.mono _ _ _ _ _)
   | (with_reducible exact spec_SlopeDistance.mono _ _ _ _ _)
   | (with_reducible exact spec_l14All.mono _ _)
   | (with_reducible exact spec_l14Small.mono _ _ _)
   | (with_reducible exact LeO.refl _)
   | (with_reducible exact LeO.none _)
   | (with_reducible refine LeO.ite ?_ ?_)
   | (with_reducible refine LeO.bind ?_ (fun _ => ?_))
   | exact ih0 _ _ _ _ _
   | exact ih1 _ _ _ _
   | exact ih2 _ _ _ _ _ _ _ _ _ _
   | exact spec_CrossNumber.mono _ _ _ _ _
   | exact spec_SlopeDistance.mono _ _ _ _ _
   | exact spec_l14All.mono _ _
   | exact spec_l14Small.mono _ _ _
   | exact LeO.none _
   | refine LeO.ite ?_ ?_
   | refine LeO.bind ?_ (fun _ => ?_)
  ·intro y0 y1 y2 y3
   unfold spec_StepsBetween.l0
   repeat' first
   | (with_reducible exact ih0 _ _ _ _ _)
   | (with_reducible exact ih1 _ _ _ _)
   | (with_reducible exact ih2 _ _ _ _ _ _ _ _ _ _)
   | (with_reducible exact spec_CrossNumber.mono _ _ _ _ _)
   | (with_reducible exact spec_SlopeDistance.mono _ _ _ _ _)
   | (with_reducible exact spec_l14All.mono _ _)
   | (with_reducible exact spec_l14Small.mono _ _ _)
   | (with_reducible exact LeO.refl _)
   | (with_reducible exact LeO.none _)
   | (with_reducible refine LeO.ite ?_ ?_)
   | (with_reducible refine LeO.bind ?_ (fun _ => ?_))
   | exact ih0 _ _ _ _ _
   | exact ih1 _ _ _ _
   | exact ih2 _ _ _ _ _ _ _ _ _ _
   | exact spec_CrossNumber.mono _ _ _ _ _
   | exact spec_SlopeDistance.mono _ _ _ _ _
   | exact spec_l14All.mono _ _
   | exact spec_l14Small.mono _ _ _
   | exact LeO.none _
   | refine LeO.ite ?_ ?_
   | refine LeO.bind ?_ (fun _ => ?_)
  ·intro y0 y1 y2 y3 y4 y5 y6 y7 y8 y9
   unfold spec_StepsBetween.l1
   repeat' first
   | (with_reducible exact ih0 _ _ _ _ _)
   | (with_reducible exact ih1 _ _ _ _)
   | (with_reducible exact ih2 _ _ _ _ _ _ _ _ _ _)
   | (with_reducible exact spec_CrossNumber.mono _ _ _ _ _)
   | (with_reducible exact spec_SlopeDistance.mono _ _ _ _ _)
   | (with_reducible exact spec_l14All.mono _ _)
   | (with_reducible exact spec_l14Small.mono _ _ _)
   | (with_reducible exact LeO.refl _)
   | (with_reducible exact LeO.none _)
   | (with_reducible refine LeO.ite ?_ ?_)
   | (with_reducible refine LeO.bind ?_ (fun _ => ?_))
   | exact ih0 _ _ _ _ _
   | exact ih1 _ _ _ _
   | exact ih2 _ _ _ _ _ _ _ _ _ _
   | exact spec_CrossNumber.mono _ _ _ _ _
   | exact spec_SlopeDistance.mono _ _ _ _ _
   | exact spec_l14All.mono _ _
   | exact spec_l14Small.mono _ _ _
   | exact LeO.none _
   | refine LeO.ite ?_ ?_
   | refine LeO.bind ?_ (fun _ => ?_)
theorem spec_StepsBetween.mono : ∀ a0 a1 a2 a3 k, LeO (spec_StepsBetween.f k a0 a1 a2 a3) (spec_StepsBetween.f (k + 1) a0 a1 a2 a3) := by
 intro a0 a1 a2 a3 k
 obtain ⟨ih0, ih1, ih2⟩ := spec_StepsBetween.mono_l k
 unfold spec_StepsBetween.f
 repeat' first
   | (with_reducible exact ih0 _ _ _ _ _)
   | (with_reducible exact ih1 _ _ _ _)
   | (with_reducible exact ih2 _ _ _ _ _ _ _ _ _ _)
   | (with_reducible exact spec_CrossNumber.mono _ _ _ _ _)
   | (with_reducible exact spec_SlopeDistance.mono _ _ _ _ _)
   | (with_reducible exact spec_l14All.mono _ _)
   | (with_reducible exact spec_l14Small.mono _ _ _)
   | (with_reducible exact LeO.refl _)
   | (with_reducible exact LeO.none _)
   | (with_reducible refine LeO.ite ?_ ?_)
   | (with_reducible refine LeO.bind ?_ (fun _ => ?_))
   | exact ih0 _ _ _ _ _
   | exact ih1 _ _ _ _
   | exact ih2 _ _ _ _ _ _ _ _ _ _
   | exact spec_CrossNumber.mono _ _ _ _ _
   | exact spec_SlopeDistance.mono _ _ _ _ _
   | exact spec_l14All.mono _ _
   | exact spec_l14Small.mono _ _ _
   | exact LeO.none _
   | refine LeO.ite ?_ ?_
   | refine LeO.bind ?_ (fun _ => ?_)
def spec_StepsBetween.T5 : Bool × List (List Nat × List Nat) := (true, [([], []), ([], []), ([1], [1]), ([2], [2]), ([0, 3], [0, 3]), ([4], [4]), ([], []), ([5, 6], [5, 6])])
def spec_StepsBetween.B5 : List Nat := [0, 0, 2, 6, 15, 31, 0, 127]
theorem spec_StepsBetween.tab5 : rtab .any (opsOf Try.f8 5) = spec_StepsBetween.T5 := by kernel_rfl
theorem spec_StepsBetween.bits5 : waitsOk spec_StepsBetween.T5.2 spec_StepsBetween.B5 = true := by kernel_rfl
def spec_StepsBetween.T12 : Bool × List (List Nat × List Nat) := (true, [([], []), ([], []), ([], []), ([1, 2], [1, 2]), ([3], [3]), ([0, 4], [0, 4]), ([5], [5]), ([6, 5], [6]), ([7], [7]), ([7], [7]), ([8, 9, 7], [7, 8, 9]), ([10, 7], [7, 10]), ([7], [7]), ([11, 12, 7, 7], [7, 11, 12]), ([7], [7]), ([13, 14, 7], [7, 13, 14]), ([7, 15], [7, 15])])
def spec_StepsBetween.B12 : List Nat := [0, 0, 0, 6, 14, 31, 63, 127, 255, 255, 1023, 2047, 255, 8191, 255, 32767, 65535]
theorem spec_StepsBetween.tab12 : rtab .any (opsOf Try.f8 12) = spec_StepsBetween.T12 := by kernel_rfl
theorem spec_StepsBetween.bits12 : waitsOk spec_StepsBetween.T12.2 spec_StepsBetween.B12 = true := by kernel_rfl
set_option maxHeartbeats 8000000 in
set_option maxRecDepth 100000 in
theorem spec_StepsBetween.calls (k : Nat) (a0_0 : Int) (a0_1 : Int) (a1_0 : Int) (a1_1 : Int) (r : List (S25)) (w : World) (h : spec_StepsBetween.f k a0_0 a0_1 a1_0 a1_1 = some r) :
  Calls Try.prog 8 #[.agg #[.int .i64 a0_0, .int .i64 a0_1], .agg #[.int .i64 a1_0, .int .i64 a1_1]] w fun e w' => ∃ v0_ : Value, e = .returned (v0_) ∧ Kd.R k25 25 w' w.heap.size (fun _ => True) v0_ r ∧ Below w.heap.size w w' := by
 have hu25 := Try.underlying25
 have HB := Az.mk (Below.refl w.heap.size w)
 have H : ((spec_l14Small.f k a0_0 a0_1).bind fun t170 => (if t170 = true then ((spec_l14Small.f k a1_0 a1_1).bind fun t171 => (spec_StepsBetween.j0 k (!t171) a0_0 a0_1 a1_0 a1_1)) else (spec_StepsBetween.j0 k true a0_0 a0_1 a1_0 a1_1))) = some r := h
 clear h
 have HC3 := Az.mk H
 clear H
 go_enter Try.func8, Try.ntmps8
 go_upto_region 1 with (first | ((with_reducible refine gtD (N := 2) rfl ?_); refine bxE ?hg (N := 2) ?hd (cs := #[.int .i64 a0_0, .int .i64 a0_1]) (t := 25) ?hr ?_; (case hd => rfl); (case hg => rfl); (case hr => first | (go_simp; done) | (go_simp; rfl)); intro gb168 hg w4 hbox hb; have n0_ := Az.mk (bwT (by repeat (first | (with_reducible first | exact HB.out | apply bwA | apply pbN | apply bwD) | exact HB.out)) hb); have n1_ := Az.mk (hbox); have n2_ := Az.mk ((by rw [hg]; exact (bwZ (by repeat (first | (with_reducible first | exact HB.out | apply bwA | apply pbN | apply bwD) | exact HB.out))) : w.heap.size ≤ gb168)); have n3_ := Az.mk ((by rw [hg]; exact (bwZ (by repeat (first | (with_reducible first | exact HB.out | apply bwA | apply pbN | apply bwD) | exact HB.out))) : w.heap.size ≤ gb168)); clear HB; have HB := n0_; have BK168 := n1_; have GW168 := n2_; have GE168 := n3_; clear n0_ n1_ n2_ n3_; clear hb hbox hg) | ((with_reducible refine gtD (N := 3) rfl ?_); refine bxE ?hg (N := 3) ?hd (cs := #[.int .i64 a1_0, .int .i64 a1_1]) (t := 25) ?hr ?_; (case hd => rfl); (case hg => rfl); (case hr => first | (go_simp; done) | (go_simp; rfl)); intro gb169 hg w5 hbox hb; have n0_ := Az.mk (bkB (g := gb168) (o := .cells #[.int .i64 a0_0, .int .i64 a0_1] 25 (0, 0)) (by (with_reducible repeat (first | refine bkN ?_ _ | refine bkD ?_ | refine bkA ?_ _)); exact BK168.out) hb); have n1_ := Az.mk (bwT (by repeat (first | (with_reducible first | exact HB.out | apply bwA | apply pbN | apply bwD | refine bwS ?_ GE168.out) | exact HB.out)) hb); have n2_ := Az.mk (hbox); have n3_ := Az.mk ((by rw [hg]; exact (bwZ (by repeat (first | (with_reducible first | exact HB.out | apply bwA | apply pbN | apply bwD | refine bwS ?_ GE168.out) | exact HB.out))) : w.heap.size ≤ gb169)); have n4_ := Az.mk ((by rw [hg]; exact (bwZ (by repeat (first | (with_reducible first | exact HB.out | apply bwA | apply pbN | apply bwD | refine bwS ?_ GE168.out) | exact HB.out))) : w.heap.size ≤ gb169)); have n5_ := Az.mk ((by rw [hg]; exact Nat.ne_of_lt (blk_lt (g := gb168) (o := .cells #[.int .i64 a0_0, .int .i64 a0_1] 25 (0, 0)) (by (with_reducible repeat (first | refine bkN ?_ _ | refine bkD ?_ | refine bkA ?_ _)); exact BK168.out)) : gb168 ≠ gb169)); have n6_ := Az.mk ((by rw [hg]; exact Nat.ne_of_gt (blk_lt (g := gb168) (o := .cells #[.int .i64 a0_0, .int .i64 a0_1] 25 (0, 0)) (by (with_reducible repeat (first | refine bkN ?_ _ | refine bkD ?_ | refine bkA ?_ _)); exact BK168.out)) : gb169 ≠ gb168)); clear BK168; clear HB; have BK168 := n0_; have HB := n1_; have BK169 := n2_; have GW169 := n3_; have GE169 := n4_; have NB168_169 := n5_; have NB169_168 := n6_; clear n0_ n1_ n2_ n3_ n4_ n5_ n6_; clear hb hbox hg))
 (try simp only [Act.put, List.setIfInBounds_toArray, List.set_cons_zero, List.set_cons_succ])
 go_cut [18] (fun v18 wc => ∃ (kq : Nat) (x18_2 : Bool), v18 = .bool x18_2 ∧ Az (spec_StepsBetween.j0 kq x18_2 a0_0 a0_1 a1_0 a1_1 = some r) ∧ Az (kq ≤ k) ∧ Az (wc.heap[gb168]? = some (.cells #[.int .i64 a0_0, .int .i64 a0_1] 25 (0, 0))) ∧ Az (wc.heap[gb169]? = some (.cells #[.int .i64 a1_0, .int .i64 a1_1] 25 (0, 0))) ∧ Az (Below w.heap.size w wc))
 case first =>
  have H := HC3.out
  clear HC3
  replace H := Option.bind_eq_some_iff.mp H
  obtain ⟨t170, A60, H⟩ := H
  replace H : (if t170 = true then ((spec_l14Small.f k a1_0 a1_1).bind fun t171 => (spec_StepsBetween.j0 k (!t171) a0_0 a0_1 a1_0 a1_1)) else (spec_StepsBetween.j0 k true a0_0 a0_1 a1_0 a1_1)) = some r := H
  have A6 := Az.mk A60
  clear A60
  by_cases c7 : t170 = true
  ·subst c7
   have H1 : ((spec_l14Small.f k a1_0 a1_1).bind fun t171 => (spec_StepsBetween.j0 k (!t171) a0_0 a0_1 a1_0 a1_1)) = some r := by rw [if_pos rfl] at H; exact H
   clear H
   have H := H1
   clear H1
   replace H := Option.bind_eq_some_iff.mp H
   obtain ⟨t171, A80, H⟩ := H
   replace H : (spec_StepsBetween.j0 k (!t171) a0_0 a0_1 a1_0 a1_1) = some r := H
   have A8 := Az.mk A80
   clear A80
   have H' := Az.mk H
   clear H
   have hnb9 := NB168_169.out
   have hnc9 := NB169_168.out
   have hcz10_0 : w5.cell? ⟨gb168, 0, none⟩ = some (.int .i64 a0_0) := (bkC BK168.out 0).trans rfl
   have hcz10_1 : w5.cell? ⟨gb168, 1, none⟩ = some (.int .i64 a0_1) := (bkC BK168.out 1).trans rfl
   have hfz10_0 := bkF BK168.out 0
   have hfz10_1 := bkF BK168.out 1
   go_wp2_with (first | ((with_reducible refine gtC (f := 18) rfl ?_); refine goesL_ (some 12) rfl rfl Try.func18 (by kernel_rfl) rfl #[.agg #[.int .i64 a0_0, .int .i64 a0_1]] rfl (by (try simp only [List.map_toArray, List.map_cons, List.map_nil]); first | done | rfl | (simp only [List.length_drop, List.length_take]; rfl)) ?_; (with_reducible refine (spec_l14Small.calls k a0_0 a0_1 true _ A6.out).mono ?_); rintro e w11 ⟨rfl, hb⟩; refine ⟨_, rfl, ?_⟩; have n0_ := Az.mk (bkB (g := gb168) (o := .cells #[.int .i64 a0_0, .int .i64 a0_1] 25 (0, 0)) (by (with_reducible repeat (first | refine bkN ?_ _ | refine bkD ?_ | refine bkA ?_ _)); exact BK168.out) hb); have n1_ := Az.mk (bkB (g := gb169) (o := .cells #[.int .i64 a1_0, .int .i64 a1_1] 25 (0, 0)) (by (with_reducible repeat (first | refine bkN ?_ _ | refine bkD ?_ | refine bkA ?_ _)); exact BK169.out) hb); have n2_ := Az.mk (bwT (by repeat (first | (with_reducible first | exact HB.out | apply bwA | apply pbN | apply bwD | refine bwS ?_ GE168.out | refine bwS ?_ GE169.out) | exact HB.out)) hb); clear BK168; clear BK169; clear HB; have BK168 := n0_; have BK169 := n1_; have HB := n2_; clear n0_ n1_ n2_; (try clear hb); (try clear hb2); (try clear hk); (try clear hi); have hcz12_0 : w11.cell? ⟨gb169, 0, none⟩ = some (.int .i64 a1_0) := (bkC BK169.out 0).trans rfl; have hcz12_1 : w11.cell? ⟨gb169, 1, none⟩ = some (.int .i64 a1_1) := (bkC BK169.out 1).trans rfl; have hfz12_0 := bkF BK169.out 0; have hfz12_1 := bkF BK169.out 1) | (go_at_call 18; (with_reducible refine (spec_l14Small.calls k a1_0 a1_1 t171 _ A8.out).mono ?_); rintro e w13 ⟨rfl, hb⟩; have n0_ := Az.mk (bkB (g := gb168) (o := .cells #[.int .i64 a0_0, .int .i64 a0_1] 25 (0, 0)) (by (with_reducible repeat (first | refine bkN ?_ _ | refine bkD ?_ | refine bkA ?_ _)); exact BK168.out) hb); have n1_ := Az.mk (bkB (g := gb169) (o := .cells #[.int .i64 a1_0, .int .i64 a1_1] 25 (0, 0)) (by (with_reducible repeat (first | refine bkN ?_ _ | refine bkD ?_ | refine bkA ?_ _)); exact BK169.out) hb); have n2_ := Az.mk (bwT (by repeat (first | (with_reducible first | exact HB.out | apply bwA | apply pbN | apply bwD | refine bwS ?_ GE168.out | refine bwS ?_ GE169.out) | exact HB.out)) hb); clear BK168; clear BK169; clear HB; have BK168 := n0_; have BK169 := n1_; have HB := n2_; clear n0_ n1_ n2_; (try clear hb); (try clear hb2); (try clear hk); (try clear hi)))
   go_meet
   case rel => exact ⟨_, (!t171), (by first | rfl | (simp; done) | (simp [*]; done)), H', ⟨by first | omega | exact Nat.le_refl _⟩, ⟨by (with_reducible repeat (first | refine bkN ?_ _ | refine bkD ?_ | refine bkA ?_ _)); exact BK168.out⟩, ⟨by (with_reducible repeat (first | refine bkN ?_ _ | refine bkD ?_ | refine bkA ?_ _)); exact BK169.out⟩, ⟨by repeat (first | (with_reducible first | exact HB.out | apply bwA | apply pbN | apply bwD | refine bwS ?_ GE168.out | refine bwS ?_ GE169.out) | exact HB.out)⟩⟩
  ·replace c7 := Bool.eq_false_iff.mpr c7
   subst c7
   have H1 : (spec_StepsBetween.j0 k true a0_0 a0_1 a1_0 a1_1) = some r := by rw [if_neg (show ¬ (false = true) by decide)] at H; exact H
   clear H
   have H := H1
   clear H1
   have H' := Az.mk H
   clear H
   have hnb14 := NB168_169.out
   have hnc14 := NB169_168.out
   have hcz15_0 : w5.cell? ⟨gb168, 0, none⟩ = some (.int .i64 a0_0) := (bkC BK168.out 0).trans rfl
   have hcz15_1 : w5.cell? ⟨gb168, 1, none⟩ = some (.int .i64 a0_1) := (bkC BK168.out 1).trans rfl
   have hfz15_0 := bkF BK168.out 0
   have hfz15_1 := bkF BK168.out 1
   go_wp2_with (first | ((with_reducible refine gtC (f := 18) rfl ?_); refine goesL_ (some 12) rfl rfl Try.func18 (by kernel_rfl) rfl #[.agg #[.int .i64 a0_0, .int .i64 a0_1]] rfl (by (try simp only [List.map_toArray, List.map_cons, List.map_nil]); first | done | rfl | (simp only [List.length_drop, List.length_take]; rfl)) ?_; (with_reducible refine (spec_l14Small.calls k a0_0 a0_1 false _ A6.out).mono ?_); rintro e w16 ⟨rfl, hb⟩; refine ⟨_, rfl, ?_⟩; have n0_ := Az.mk (bkB (g := gb168) (o := .cells #[.int .i64 a0_0, .int .i64 a0_1] 25 (0, 0)) (by (with_reducible repeat (first | refine bkN ?_ _ | refine bkD ?_ | refine bkA ?_ _)); exact BK168.out) hb); have n1_ := Az.mk (bkB (g := gb169) (o := .cells #[.int .i64 a1_0, .int .i64 a1_1] 25 (0, 0)) (by (with_reducible repeat (first | refine bkN ?_ _ | refine bkD ?_ | refine bkA ?_ _)); exact BK169.out) hb); have n2_ := Az.mk (bwT (by repeat (first | (with_reducible first | exact HB.out | apply bwA | apply pbN | apply bwD | refine bwS ?_ GE168.out | refine bwS ?_ GE169.out) | exact HB.out)) hb); clear BK168; clear BK169; clear HB; have BK168 := n0_; have BK169 := n1_; have HB := n2_; clear n0_ n1_ n2_; (try clear hb); (try clear hb2); (try clear hk); (try clear hi)))
   go_meet
   case rel => exact ⟨_, (true), (by first | rfl | (simp; done) | (simp [*]; done)), H', ⟨by first | omega | exact Nat.le_refl _⟩, ⟨by (with_reducible repeat (first | refine bkN ?_ _ | refine bkD ?_ | refine bkA ?_ _)); exact BK168.out⟩, ⟨by (with_reducible repeat (first | refine bkN ?_ _ | refine bkD ?_ | refine bkA ?_ _)); exact BK169.out⟩, ⟨by repeat (first | (with_reducible first | exact HB.out | apply bwA | apply pbN | apply bwD | refine bwS ?_ GE168.out | refine bwS ?_ GE169.out) | exact HB.out)⟩⟩
 case rest =>
  clear HC3
  try clear c1
  try clear p2
  try clear c7
  try clear c8
  try clear c9
  try clear c14
  try clear hcz10_0
  try clear hcz10_1
  try clear hcz12_0
  try clear hcz12_1
  try clear hcz15_0
  try clear hcz15_1
  try clear hfz10_0
  try clear hfz10_1
  try clear hfz12_0
  try clear hfz12_1
  try clear hfz15_0
  try clear hfz15_1
  obtain ⟨kq, x18_2, rfl, HA, HJ2, BK168, BK169, HB⟩ := hcut
  cases kq with
  | zero => exact absurd HA.out (by simp [spec_StepsBetween.j0])
  | succ kj2 =>
   have H := HA.out
   clear HA
   simp only [spec_StepsBetween.j0] at H
   by_cases c17 : x18_2 = true
   ·subst c17
    have H1 : (some (([] : List (S25)))) = some r := by rw [if_pos rfl] at H; exact H
    clear H
    have H := H1
    clear H1
    obtain ⟨y172, hy172⟩ : ∃ y_ : List (S25), y_ = (([] : List (S25))) := ⟨_, rfl⟩
    replace H : (some y172) = some r := by first | (rw [hy172]; with_reducible exact H) | (have H2_ := (Option.bind_some _ _).symm.trans H; rw [hy172]; with_reducible exact H2_) | (have H2_ := (Option.bind_some _ _).symm.trans H; with_reducible exact H2_) | with_reducible exact H | (rw [hy172]; exact H) | exact H
    have Ny172 := Az.mk hy172
    clear hy172
    obtain rfl := Option.some.inj H
    go_wp2_with (first | ((with_reducible refine gtD (N := 19) rfl ?_); refine Kd.R_lit k25 _ 25 ?hg (N := 19) ?hd (xs := ([] : List (S25))) (inner := []) (ok := fun _ => True) (okp := fun _ => True) ?hr ?hp (fun _ hk => hk) trivial (Below.refl _ _) (Nat.le_refl _) (by simp) ?_; (case hd => rfl); (case hg => rfl); (case hr => first | (go_simp; done) | (go_simp; rfl)); (case hp => exact (Reps.none _ _)); intro v173 w18 ho19 hb hg_ hnew_; clear hg_ hnew_; (first | rw [← Ny172.out] at ho19 | (simp only [Int.reduceToNat] at ho19; rw [← Ny172.out] at ho19)); have n0_ := Az.mk (Kd.R_lower (Kd.R_newB (Kd.R_newB ho19 (g := gb168) (o := .cells #[.int .i64 a0_0, .int .i64 a0_1] 25 (0, 0)) (by (with_reducible repeat (first | refine bkN ?_ _ | refine bkD ?_ | refine bkA ?_ _)); exact BK168.out)) (g := gb169) (o := .cells #[.int .i64 a1_0, .int .i64 a1_1] 25 (0, 0)) (by (with_reducible repeat (first | refine bkN ?_ _ | refine bkD ?_ | refine bkA ?_ _)); exact BK169.out)) (bwZ (by repeat (first | (with_reducible first | exact HB.out | apply bwA | apply pbN | apply bwD | refine bwS ?_ GE168.out | refine bwS ?_ GE169.out) | exact HB.out)))); have n1_ := Az.mk (bkB (g := gb168) (o := .cells #[.int .i64 a0_0, .int .i64 a0_1] 25 (0, 0)) (by (with_reducible repeat (first | refine bkN ?_ _ | refine bkD ?_ | refine bkA ?_ _)); exact BK168.out) hb); have n2_ := Az.mk (bkB (g := gb169) (o := .cells #[.int .i64 a1_0, .int .i64 a1_1] 25 (0, 0)) (by (with_reducible repeat (first | refine bkN ?_ _ | refine bkD ?_ | refine bkA ?_ _)); exact BK169.out) hb); have n3_ := Az.mk (bwT (by repeat (first | (with_reducible first | exact HB.out | apply bwA | apply pbN | apply bwD | refine bwS ?_ GE168.out | refine bwS ?_ GE169.out) | exact HB.out)) hb); clear BK168; clear BK169; clear HB; have HO174 := n0_; have BK168 := n1_; have BK169 := n2_; have HB := n3_; clear n0_ n1_ n2_ n3_; clear hb ho19))
    go_ret
    exact ⟨_, by first | rfl | (simp [eWn, eWs] <;> rfl) | (simp [*, eWn, eWs] <;> rfl), by (with_reducible repeat (first | apply Kd.R_alloc | apply Kd.R_drewN | apply Kd.R_drew)); exact Kd.R_mono HO174.out (fun _ hk => trivial), by repeat (first | (with_reducible first | exact HB.out | apply bwA | apply pbN | apply bwD | refine bwS ?_ GE168.out | refine bwS ?_ GE169.out) | exact HB.out)⟩
   ·replace c17 := Bool.eq_false_iff.mpr c17
    subst c17
    have H1 : ((spec_l14All.f kj2 60).bind fun t178 => (spec_StepsBetween.l0 kj2 (([(⟨a0_0, a0_1⟩ : S25)] : List (S25))) t178 a1_0 a1_1)) = some r := by rw [if_neg (show ¬ (false = true) by decide)] at H; exact H
    clear H
    have H := H1
    clear H1
    obtain ⟨y175, hy175⟩ : ∃ y_ : List (S25), y_ = (([(⟨a0_0, a0_1⟩ : S25)] : List (S25))) := ⟨_, rfl⟩
    replace H : ((spec_l14All.f kj2 60).bind fun t178 => (spec_StepsBetween.l0 kj2 y175 t178 a1_0 a1_1)) = some r := by first | (rw [hy175]; with_reducible exact H) | (have H2_ := (Option.bind_some _ _).symm.trans H; rw [hy175]; with_reducible exact H2_) | (have H2_ := (Option.bind_some _ _).symm.trans H; with_reducible exact H2_) | with_reducible exact H | (rw [hy175]; exact H) | exact H
    have Ny175 := Az.mk hy175
    clear hy175
    replace H := Option.bind_eq_some_iff.mp H
    obtain ⟨t178, A200, H⟩ := H
    replace H : (spec_StepsBetween.l0 kj2 y175 t178 a1_0 a1_1) = some r := H
    have A20 := Az.mk A200
    clear A200
    have H' := Az.mk H
    clear H
    have hnb21 := NB168_169.out
    have hnc21 := NB169_168.out
    have hcz22_0 : wc.cell? ⟨gb168, 0, none⟩ = some (.int .i64 a0_0) := (bkC BK168.out 0).trans rfl
    have hcz22_1 : wc.cell? ⟨gb168, 1, none⟩ = some (.int .i64 a0_1) := (bkC BK168.out 1).trans rfl
    have hfz22_0 := bkF BK168.out 0
    have hfz22_1 := bkF BK168.out 1
    go_wp2_with (first | ((with_reducible refine gtD (N := 21) rfl ?_); refine Kd.R_lit k25 _ 25 ?hg (N := 21) ?hd (xs := ([(⟨a0_0, a0_1⟩ : S25)] : List (S25))) (inner := [.int .i64 a0_0, .int .i64 a0_1]) (ok := fun _ => True) (okp := fun _ => True) ?hr ?hp (fun _ hk => hk) trivial (Below.refl _ _) (Nat.le_refl _) (by simp) ?_; (case hd => rfl); (case hg => rfl); (case hr => first | (go_simp; done) | (go_simp; rfl)); (case hp => exact (Reps.c2 (show Kd.M k25 _ _ _ (⟨a0_0, a0_1⟩ : S25) [.int .i64 a0_0, .int .i64 a0_1] from (k25_mkM _ _ _ (⟨a0_0, a0_1⟩ : S25) )) (Reps.none _ _))); intro v176 w23 ho24 hb hg_ hnew_; clear hg_ hnew_; (first | rw [← Ny175.out] at ho24 | (simp only [Int.reduceToNat] at ho24; rw [← Ny175.out] at ho24)); have n0_ := Az.mk (Kd.R_lower (Kd.R_newB (Kd.R_newB ho24 (g := gb168) (o := .cells #[.int .i64 a0_0, .int .i64 a0_1] 25 (0, 0)) (by (with_reducible repeat (first | refine bkN ?_ _ | refine bkD ?_ | refine bkA ?_ _)); exact BK168.out)) (g := gb169) (o := .cells #[.int .i64 a1_0, .int .i64 a1_1] 25 (0, 0)) (by (with_reducible repeat (first | refine bkN ?_ _ | refine bkD ?_ | refine bkA ?_ _)); exact BK169.out)) (bwZ (by repeat (first | (with_reducible first | exact HB.out | apply bwA | apply pbN | apply bwD | refine bwS ?_ GE168.out | refine bwS ?_ GE169.out) | exact HB.out)))); have n1_ := Az.mk (bkB (g := gb168) (o := .cells #[.int .i64 a0_0, .int .i64 a0_1] 25 (0, 0)) (by (with_reducible repeat (first | refine bkN ?_ _ | refine bkD ?_ | refine bkA ?_ _)); exact BK168.out) hb); have n2_ := Az.mk (bkB (g := gb169) (o := .cells #[.int .i64 a1_0, .int .i64 a1_1] 25 (0, 0)) (by (with_reducible repeat (first | refine bkN ?_ _ | refine bkD ?_ | refine bkA ?_ _)); exact BK169.out) hb); have n3_ := Az.mk (bwT (by repeat (first | (with_reducible first | exact HB.out | apply bwA | apply pbN | apply bwD | refine bwS ?_ GE168.out | refine bwS ?_ GE169.out) | exact HB.out)) hb); clear BK168; clear BK169; clear HB; have HO177 := n0_; have BK168 := n1_; have BK169 := n2_; have HB := n3_; clear n0_ n1_ n2_ n3_; clear hb ho24) | ((with_reducible refine gtC (f := 19) rfl ?_); refine goesL_ (some 22) rfl rfl Try.func19 (by kernel_rfl) rfl #[.int .i64 60] rfl (by (try simp only [List.map_toArray, List.map_cons, List.map_nil]); first | done | rfl | (simp only [List.length_drop, List.length_take]; rfl)) ?_; (with_reducible refine (spec_l14All.calls kj2 60 t178 _ A20.out).mono ?_); rintro e w25 ⟨v179, rfl, ho0, hb⟩; refine ⟨_, rfl, ?_⟩; have n0_ := Az.mk (Kd.R_elder' (by (with_reducible repeat (first | apply Kd.R_alloc | apply Kd.R_drewN | apply Kd.R_drew)); exact HO177.out) (Kd.R_base ho0) hb); have n1_ := Az.mk (Kd.R_lower (Kd.R_newB (Kd.R_newB (Kd.R_new' ho0 (Kd.R_lt (by (with_reducible repeat (first | apply Kd.R_alloc | apply Kd.R_drewN | apply Kd.R_drew)); exact HO177.out))) (g := gb168) (o := .cells #[.int .i64 a0_0, .int .i64 a0_1] 25 (0, 0)) (by (with_reducible repeat (first | refine bkN ?_ _ | refine bkD ?_ | refine bkA ?_ _)); exact BK168.out)) (g := gb169) (o := .cells #[.int .i64 a1_0, .int .i64 a1_1] 25 (0, 0)) (by (with_reducible repeat (first | refine bkN ?_ _ | refine bkD ?_ | refine bkA ?_ _)); exact BK169.out)) (bwZ (by repeat (first | (with_reducible first | exact HB.out | apply bwA | apply pbN | apply bwD | refine bwS ?_ GE168.out | refine bwS ?_ GE169.out) | exact HB.out)))); have n2_ := Az.mk (bkB (g := gb168) (o := .cells #[.int .i64 a0_0, .int .i64 a0_1] 25 (0, 0)) (by (with_reducible repeat (first | refine bkN ?_ _ | refine bkD ?_ | refine bkA ?_ _)); exact BK168.out) hb); have n3_ := Az.mk (bkB (g := gb169) (o := .cells #[.int .i64 a1_0, .int .i64 a1_1] 25 (0, 0)) (by (with_reducible repeat (first | refine bkN ?_ _ | refine bkD ?_ | refine bkA ?_ _)); exact BK169.out) hb); have n4_ := Az.mk (bwT (by repeat (first | (with_reducible first | exact HB.out | apply bwA | apply pbN | apply bwD | refine bwS ?_ GE168.out | refine bwS ?_ GE169.out) | exact HB.out)) hb); clear HO177; clear BK168; clear BK169; clear HB; have HO177 := n0_; have HO180 := n1_; have BK168 := n2_; have BK169 := n3_; have HB := n4_; clear n0_ n1_ n2_ n3_ n4_; (try clear hb); (try clear hb2); (try clear hk); (try clear hi); (try clear ho0)))
    go_loopg [5] kj2 (fun kq v5 w' => ∃ (x5_2 : List (S25)), Az (spec_StepsBetween.l0 kq x5_2 t178 a1_0 a1_1 = some r) ∧ Az (kq ≤ kj2) ∧ Az (Kd.R k25 25 w' w.heap.size (fun k_ => some k_ ≠ (v179 : Value).ownBlock ∧ k_ ≠ gb168 ∧ k_ ≠ gb169) v5 x5_2) ∧ Az (Kd.R k25 25 w' w.heap.size (fun k_ => some k_ ≠ (v5 : Value).ownBlock ∧ k_ ≠ gb168 ∧ k_ ≠ gb169) v179 t178) ∧ Az (w'.heap[gb168]? = some (.cells #[.int .i64 a0_0, .int .i64 a0_1] 25 (0, 0))) ∧ Az (w'.heap[gb169]? = some (.cells #[.int .i64 a1_0, .int .i64 a1_1] 25 (0, 0))) ∧ Az (Below w.heap.size w w'))
    case atStart => exact ⟨(y175), H', ⟨Nat.le_refl _⟩, ⟨by (with_reducible repeat (first | apply Kd.R_alloc | apply Kd.R_drewN | apply Kd.R_drew)); exact Kd.R_mono HO177.out (fun _ hk => ⟨hk.2, ⟨hk.1.1.2, hk.1.2⟩⟩)⟩, ⟨by (with_reducible repeat (first | apply Kd.R_alloc | apply Kd.R_drewN | apply Kd.R_drew)); exact Kd.R_mono HO180.out (fun _ hk => ⟨hk.1.1.2, ⟨hk.1.2, hk.2⟩⟩)⟩, ⟨by (with_reducible repeat (first | refine bkN ?_ _ | refine bkD ?_ | refine bkA ?_ _)); exact BK168.out⟩, ⟨by (with_reducible repeat (first | refine bkN ?_ _ | refine bkD ?_ | refine bkA ?_ _)); exact BK169.out⟩, ⟨by repeat (first | (with_reducible first | exact HB.out | apply bwA | apply pbN | apply bwD | refine bwS ?_ GE168.out | refine bwS ?_ GE169.out) | exact HB.out)⟩⟩
    case round =>
     clear H'
     try clear c1
     try clear c2
     try clear p2
     try clear c7
     try clear c8
     try clear c9
     try clear c14
     try clear c17
     try clear c18
     try clear c19
     try clear c21
     try clear hcz10_0
     try clear hcz10_1
     try clear hcz12_0
     try clear hcz12_1
     try clear hcz15_0
     try clear hcz15_1
     try clear hcz22_0
     try clear hcz22_1
     try clear hfz10_0
     try clear hfz10_1
     try clear hfz12_0
     try clear hfz12_1
     try clear hfz15_0
     try clear hfz15_1
     try clear hfz22_0
     try clear hfz22_1
     try clear p2
     obtain ⟨x5_2, HA, HK2, HO_5, HO_6, BK168, BK169, HB⟩ := hrel
     cases gk with
     | zero => exact absurd HA.out (by simp [spec_StepsBetween.l0])
     | succ k2 =>
      have H := HA.out
      clear HA
      simp only [spec_StepsBetween.l0] at H
      obtain ⟨ji26, hji26⟩ : ∃ j_ : Int, (wrap64 ((x5_2.length : Int) - 1)) = j_ := ⟨_, rfl⟩
      replace H : (if 0 ≤ (ji26) then (if (ji26) < (x5_2.length : Int) then (if (!(((rd_T25 x5_2 (ji26)).f0) == a1_0) || (!(((rd_T25 x5_2 (ji26)).f1) == a1_1))) = true then ((spec_SlopeDistance.f k2 ((rd_T25 x5_2 (ji26)).f0) ((rd_T25 x5_2 (ji26)).f1) a1_0 a1_1).bind fun t184 => (spec_StepsBetween.l1 k2 x5_2 t178 t184 0 a1_0 a1_1 ((rd_T25 x5_2 (ji26)).f0) ((rd_T25 x5_2 (ji26)).f1) ((rd_T25 x5_2 (ji26)).f0) ((rd_T25 x5_2 (ji26)).f1))) else (some x5_2)) else (none)) else (none)) = some r := by first | (rw [hji26] at H; exact H) | (simp only [hji26] at H ⊢; exact H)
      have hji26w : (IntKind.i64.wrap ((x5_2.length : Int) - 1)) = ji26 := (i64_w _).trans hji26
      by_cases c27 : 0 ≤ (ji26)
      ·rw [if_pos c27] at H
       have c27b0 : decide (0 ≤ (ji26)) = true := decide_eq_true c27
       clear c27
       by_cases c28 : (ji26) < (x5_2.length : Int)
       ·rw [if_pos c28] at H
        have c28b0 : decide ((ji26) < (x5_2.length : Int)) = true := decide_eq_true c28
        clear c28
        by_cases c29 : (!(((rd_T25 x5_2 (ji26)).f0) == a1_0) || (!(((rd_T25 x5_2 (ji26)).f1) == a1_1))) = true
        ·rw [if_pos c29] at H
         have c29b0 : (!(((rd_T25 x5_2 (ji26)).f0) == a1_0) || (!(((rd_T25 x5_2 (ji26)).f1) == a1_1))) = true := c29
         clear c29
         replace H := Option.bind_eq_some_iff.mp H
         obtain ⟨t184, A300, H⟩ := H
         replace H : (spec_StepsBetween.l1 k2 x5_2 t178 t184 0 a1_0 a1_1 ((rd_T25 x5_2 (ji26)).f0) ((rd_T25 x5_2 (ji26)).f1) ((rd_T25 x5_2 (ji26)).f0) ((rd_T25 x5_2 (ji26)).f1)) = some r := H
         have A30 := Az.mk A300
         clear A300
         have H' := Az.mk H
         clear H
         try go_wp2
         have n0_ := Az.mk (Kd.R_drew HO_5.out)
         have n1_ := Az.mk (Kd.R_drew HO_6.out)
         have n2_ := Az.mk (bkD BK168.out)
         have n3_ := Az.mk (bkD BK169.out)
         have n4_ := Az.mk (bwD HB.out)
         clear HO_5
         clear HO_6
         clear BK168
         clear BK169
         clear HB
         have HO_5 := n0_
         have HO_6 := n1_
         have BK168 := n2_
         have BK169 := n3_
         have HB := n4_
         clear n0_ n1_ n2_ n3_ n4_
         obtain ⟨Ao32, co32, eo32⟩ := Kd.R_slice HO_5.out
         (first | subst eo32 | (injection eo32 with f1_ f2_ f3_; have f4_ := f1_.symm; have f5_ := f3_.symm; clear f1_ f2_ f3_; subst f4_; subst f5_))
         have p181 : 0 ≤ ((ji26) : Int) := of_decide_eq_true (by first | (with_reducible assumption) | assumption)
         have q181 : (ji26) < (x5_2.length : Int) := of_decide_eq_true (by first | (with_reducible assumption) | assumption)
         obtain ⟨ad181, e181, hx181_0, hx181_1⟩ := at_T25 (Kd.R_reads' HO_5.out).2.2 (ji26) p181 q181
         cases e181
         replace p181 := eq_true p181
         replace q181 := eq_true q181
         refine start_ (n := 8) (S := fun w' => w'.cell? ⟨gb169, 0, none⟩ = some (.int .i64 a1_0) ∧ w'.cell? ⟨gb169, 1, none⟩ = some (.int .i64 a1_1) ∧ w'.cell? (ad181.add (((ji26)).toNat * 2)) = some (.int .i64 ((rd_T25 x5_2 (ji26)).f0)) ∧ w'.cell? ⟨(ad181.add (((ji26)).toNat * 2)).block, (ad181.add (((ji26)).toNat * 2)).off + 1, none⟩ = some (.int .i64 ((rd_T25 x5_2 (ji26)).f1))) (ds := []) #[false, false, false, false, false, false, false, false] (by kernel_rfl) rfl rfl ⟨(bkC BK169.out 0).trans rfl, (bkC BK169.out 1).trans rfl, hx181_0, hx181_1⟩ (fun hHeld => ?_); refine with_tabW spec_StepsBetween.tab5 spec_StepsBetween.bits5 (fun HT_ HW_ => ?_)
         generalize wr.drew = w31 at HO_5 HO_6 BK168 BK169 HB hx181_0 hx181_1 hHeld ⊢
         refine pure_ (i := 0) (N := some 23) (v := ?_) (a' := ?_) #[true, false, false, false, false, false, false, false] rfl rfl (any_of HT_.out (by kernel_rfl)) (fun _ _ _ h => h) (Or.inl ⟨by rfl, ?_⟩) ?_ ?_
         rotate_left
         ·intro w'
          go_simp
          with_reducible rfl
         rotate_left
         ·simp only [Act.put, List.setIfInBounds_toArray, List.set_cons_zero, List.set_cons_succ, i64_w, i32_w]
          rfl
         refine pure_ (i := 1) (N := some 24) (v := ?_) (a' := ?_) #[true, true, false, false, false, false, false, false] rfl rfl (any_of HT_.out (by kernel_rfl)) (fun _ _ _ h => h) (Or.inl ⟨by rfl, ?_⟩) ?_ ?_
         rotate_left
         ·intro w'
          go_simp
          with_reducible rfl
         rotate_left
         ·simp only [Act.put, List.setIfInBounds_toArray, List.set_cons_zero, List.set_cons_succ, i64_w, i32_w]
          rfl
         refine pure_ (i := 2) (N := some 25) (v := ?_) (a' := ?_) #[true, true, true, false, false, false, false, false] rfl rfl (any_of HT_.out (by kernel_rfl)) (fun _ _ _ h => h) (Or.inl ⟨by rfl, ?_⟩) ?_ ?_
         rotate_left
         ·intro w'
          go_simp
          with_reducible rfl
         rotate_left
         ·simp only [Act.put, List.setIfInBounds_toArray, List.set_cons_zero, List.set_cons_succ, i64_w, i32_w]
          rfl
         refine pure_ (i := 3) (N := some 26) (v := ?_) (a' := ?_) #[true, true, true, true, false, false, false, false] rfl rfl (any_of HT_.out (by kernel_rfl)) (fun _ _ _ h => h) (Or.inl ⟨by rfl, ?_⟩) ?_ ?_
         rotate_left
         ·intro w'
          go_simp
          with_reducible rfl
         rotate_left
         ·simp only [Act.put, List.setIfInBounds_toArray, List.set_cons_zero, List.set_cons_succ, i64_w, i32_w]
          rfl
         refine pure_ (i := 4) (N := some 27) (v := ?_) (a' := ?_) #[true, true, true, true, true, false, false, false] rfl rfl (any_of HT_.out (by kernel_rfl)) (fun _ _ _ h => h) (Or.inl ⟨by rfl, ?_⟩) ?_ ?_
         rotate_left
         ·intro w'
          go_simp
          with_reducible rfl
         rotate_left
         ·simp only [Act.put, List.setIfInBounds_toArray, List.set_cons_zero, List.set_cons_succ, i64_w, i32_w]
          rfl
         refine take_ (i := 5) (N := some 28) (v := ?_) (a' := ?_) #[true, true, true, true, true, true, false, false] rfl rfl (take_ofW HT_.out HW_.out (by kernel_rfl)) (fun _ _ _ h => h) (Or.inl ⟨by rfl, ?_⟩) hHeld ?_ ?_
         rotate_left
         ·rintro w' ⟨s0, s1, s2, s3⟩
          go_simp
          with_reducible rfl
         rotate_left
         ·simp only [Act.put, List.setIfInBounds_toArray, List.set_cons_zero, List.set_cons_succ, i64_w, i32_w]
          rfl
         refine take_ (i := 6) (N := some 29) (v := ?_) (a' := ?_) #[true, true, true, true, true, true, true, false] rfl rfl (take_ofW HT_.out HW_.out (by kernel_rfl)) (fun _ _ _ h => h) (Or.inl ⟨by rfl, ?_⟩) hHeld ?_ ?_
         rotate_left
         ·rintro w' ⟨s0, s1, s2, s3⟩
          go_simp
          with_reducible rfl
         rotate_left
         ·simp only [Act.put, List.setIfInBounds_toArray, List.set_cons_zero, List.set_cons_succ, i64_w, i32_w]
          rfl
         refine pure_ (i := 7) (N := some 30) (v := ?_) (a' := ?_) #[true, true, true, true, true, true, true, true] rfl rfl (any_of HT_.out (by kernel_rfl)) (fun _ _ _ h => h) (Or.inl ⟨by rfl, ?_⟩) ?_ ?_
         rotate_left
         ·intro w'
          go_simp
          with_reducible rfl
         rotate_left
         ·simp only [Act.put, List.setIfInBounds_toArray, List.set_cons_zero, List.set_cons_succ, i64_w, i32_w]
          rfl
         refine done_ (done_of HT_.out (by kernel_rfl)) ?_
         have p182 : 0 ≤ ((ji26) : Int) := of_decide_eq_true (by first | (with_reducible assumption) | assumption)
         have q182 : (ji26) < (x5_2.length : Int) := of_decide_eq_true (by first | (with_reducible assumption) | assumption)
         obtain ⟨ad182, e182, hx182_0, hx182_1⟩ := at_T25 (Kd.R_reads' HO_5.out).2.2 (ji26) p182 q182
         obtain rfl : ad181 = ad182 := (by injection e182)
         replace p182 := eq_true p182
         replace q182 := eq_true q182
         try go_wp2_with (first | ((with_reducible refine gtD (N := 7) rfl ?_); refine bxE ?hg (N := 7) ?hd (cs := #[.int .i64 0, .int .i64 0]) (t := 25) ?hr ?_; (case hd => rfl); (case hg => rfl); (case hr => first | (go_simp; done) | (go_simp; rfl)); intro gb183 hg w33 hbox hb; have n0_ := Az.mk (Kd.R_below (Kd.R_elderB (by (with_reducible repeat (first | apply Kd.R_alloc | apply Kd.R_drewN | apply Kd.R_drew)); exact HO_5.out) gb183 (Nat.le_of_eq hg.symm)) hb); have n1_ := Az.mk (Kd.R_below (Kd.R_elderB (by (with_reducible repeat (first | apply Kd.R_alloc | apply Kd.R_drewN | apply Kd.R_drew)); exact HO_6.out) gb183 (Nat.le_of_eq hg.symm)) hb); have n2_ := Az.mk (bkB (g := gb168) (o := .cells #[.int .i64 a0_0, .int .i64 a0_1] 25 (0, 0)) (by (with_reducible repeat (first | refine bkN ?_ _ | refine bkD ?_ | refine bkA ?_ _)); exact BK168.out) hb); have n3_ := Az.mk (bkB (g := gb169) (o := .cells #[.int .i64 a1_0, .int .i64 a1_1] 25 (0, 0)) (by (with_reducible repeat (first | refine bkN ?_ _ | refine bkD ?_ | refine bkA ?_ _)); exact BK169.out) hb); have n4_ := Az.mk (bwT (by repeat (first | (with_reducible first | exact HB.out | apply bwA | apply pbN | apply bwD | refine bwS ?_ GE168.out | refine bwS ?_ GE169.out) | exact HB.out)) hb); have n5_ := Az.mk (hbox); have n6_ := Az.mk ((by rw [hg]; exact (bwZ (by repeat (first | (with_reducible first | exact HB.out | apply bwA | apply pbN | apply bwD | refine bwS ?_ GE168.out | refine bwS ?_ GE169.out) | exact HB.out))) : w.heap.size ≤ gb183)); have n7_ := Az.mk ((by rw [hg]; exact (bwZ (by repeat (first | (with_reducible first | exact HB.out | apply bwA | apply pbN | apply bwD | refine bwS ?_ GE168.out | refine bwS ?_ GE169.out) | exact HB.out))) : w.heap.size ≤ gb183)); have n8_ := Az.mk ((by rw [hg]; exact Nat.ne_of_lt (blk_lt (g := gb168) (o := .cells #[.int .i64 a0_0, .int .i64 a0_1] 25 (0, 0)) (by (with_reducible repeat (first | refine bkN ?_ _ | refine bkD ?_ | refine bkA ?_ _)); exact BK168.out)) : gb168 ≠ gb183)); have n9_ := Az.mk ((by rw [hg]; exact Nat.ne_of_gt (blk_lt (g := gb168) (o := .cells #[.int .i64 a0_0, .int .i64 a0_1] 25 (0, 0)) (by (with_reducible repeat (first | refine bkN ?_ _ | refine bkD ?_ | refine bkA ?_ _)); exact BK168.out)) : gb183 ≠ gb168)); have n10_ := Az.mk ((by rw [hg]; exact Nat.ne_of_lt (blk_lt (g := gb169) (o := .cells #[.int .i64 a1_0, .int .i64 a1_1] 25 (0, 0)) (by (with_reducible repeat (first | refine bkN ?_ _ | refine bkD ?_ | refine bkA ?_ _)); exact BK169.out)) : gb169 ≠ gb183)); have n11_ := Az.mk ((by rw [hg]; exact Nat.ne_of_gt (blk_lt (g := gb169) (o := .cells #[.int .i64 a1_0, .int .i64 a1_1] 25 (0, 0)) (by (with_reducible repeat (first | refine bkN ?_ _ | refine bkD ?_ | refine bkA ?_ _)); exact BK169.out)) : gb183 ≠ gb169)); clear HO_5; clear HO_6; clear BK168; clear BK169; clear HB; have HO_5 := n0_; have HO_6 := n1_; have BK168 := n2_; have BK169 := n3_; have HB := n4_; have BK183 := n5_; have GW183 := n6_; have GE183 := n7_; have NB168_183 := n8_; have NB183_168 := n9_; have NB169_183 := n10_; have NB183_169 := n11_; clear n0_ n1_ n2_ n3_ n4_ n5_ n6_ n7_ n8_ n9_ n10_ n11_; clear hb hbox hg; have hnb34 := NB183_168.out; have hnc34 := NB168_183.out; have hnb35 := NB183_169.out; have hnc35 := NB169_183.out; have hcz36_0 : w33.cell? ⟨gb183, 0, none⟩ = some (.int .i64 0) := (bkC BK183.out 0).trans rfl; have hcz36_1 : w33.cell? ⟨gb183, 1, none⟩ = some (.int .i64 0) := (bkC BK183.out 1).trans rfl; have hfz36_0 := bkF BK183.out 0; have hfz36_1 := bkF BK183.out 1; have hnb37 := NB169_168.out; have hnc37 := NB168_169.out; have hcz38_0 : w33.cell? ⟨gb169, 0, none⟩ = some (.int .i64 a1_0) := (bkC BK169.out 0).trans rfl; have hcz38_1 : w33.cell? ⟨gb169, 1, none⟩ = some (.int .i64 a1_1) := (bkC BK169.out 1).trans rfl; have hfz38_0 := bkF BK169.out 0; have hfz38_1 := bkF BK169.out 1) | ((with_reducible refine gtC (f := 5) rfl ?_); refine goesL_ (some 39) rfl rfl Try.func5 (by kernel_rfl) rfl #[.agg #[.int .i64 ((rd_T25 x5_2 (ji26)).f0), .int .i64 ((rd_T25 x5_2 (ji26)).f1)], .agg #[.int .i64 a1_0, .int .i64 a1_1]] rfl (by (try simp only [List.map_toArray, List.map_cons, List.map_nil]); first | done | (simp only [hji26]; rfl) | rfl | (simp only [List.length_drop, List.length_take]; rfl)) ?_; (with_reducible refine (spec_SlopeDistance.calls k2 ((rd_T25 x5_2 (ji26)).f0) ((rd_T25 x5_2 (ji26)).f1) a1_0 a1_1 t184 _ A30.out).mono ?_); rintro e w39 ⟨rfl, hb⟩; refine ⟨_, rfl, ?_⟩; have n0_ := Az.mk (Kd.R_below (by (with_reducible repeat (first | apply Kd.R_alloc | apply Kd.R_drewN | apply Kd.R_drew)); exact (Kd.R_mono (Kd.R_far (p := ⟨gb183, 1, none⟩) (Kd.R_far (p := ⟨gb183, 0, none⟩) (Kd.R_mono HO_5.out (fun k_ hk => (⟨hk, hk.2⟩ : _ ∧ k_ ≠ gb183))) (fun _ hk => hk.2) (.int .i64 ((rd_T25 x5_2 (ji26)).f0))) (fun _ hk => hk.2) (.int .i64 ((rd_T25 x5_2 (ji26)).f1))) (fun _ h_ => h_.1))) hb); have n1_ := Az.mk (Kd.R_below (by (with_reducible repeat (first | apply Kd.R_alloc | apply Kd.R_drewN | apply Kd.R_drew)); exact (Kd.R_mono (Kd.R_far (p := ⟨gb183, 1, none⟩) (Kd.R_far (p := ⟨gb183, 0, none⟩) (Kd.R_mono HO_6.out (fun k_ hk => (⟨hk, hk.2⟩ : _ ∧ k_ ≠ gb183))) (fun _ hk => hk.2) (.int .i64 ((rd_T25 x5_2 (ji26)).f0))) (fun _ hk => hk.2) (.int .i64 ((rd_T25 x5_2 (ji26)).f1))) (fun _ h_ => h_.1))) hb); have n2_ := Az.mk (bkB (g := gb168) (o := .cells #[.int .i64 a0_0, .int .i64 a0_1] 25 (0, 0)) (by (with_reducible repeat (first | refine bkN ?_ _ | refine bkD ?_ | refine bkA ?_ _)); refine bkf ?_ NB168_183.out _; (with_reducible repeat (first | refine bkN ?_ _ | refine bkD ?_ | refine bkA ?_ _)); refine bkf ?_ NB168_183.out _; (with_reducible repeat (first | refine bkN ?_ _ | refine bkD ?_ | refine bkA ?_ _)); exact BK168.out) hb); have n3_ := Az.mk (bkB (g := gb169) (o := .cells #[.int .i64 a1_0, .int .i64 a1_1] 25 (0, 0)) (by (with_reducible repeat (first | refine bkN ?_ _ | refine bkD ?_ | refine bkA ?_ _)); refine bkf ?_ NB169_183.out _; (with_reducible repeat (first | refine bkN ?_ _ | refine bkD ?_ | refine bkA ?_ _)); refine bkf ?_ NB169_183.out _; (with_reducible repeat (first | refine bkN ?_ _ | refine bkD ?_ | refine bkA ?_ _)); exact BK169.out) hb); have n4_ := Az.mk (bkB (g := gb183) (o := .cells #[.int .i64 ((rd_T25 x5_2 (ji26)).f0), .int .i64 ((rd_T25 x5_2 (ji26)).f1)] 25 (0, 0)) (by (with_reducible repeat (first | refine bkN ?_ _ | refine bkD ?_ | refine bkA ?_ _)); refine bkp (cs := #[.int .i64 ((rd_T25 x5_2 (ji26)).f0), .int .i64 0]) ?_ 1 _ rfl; (with_reducible repeat (first | refine bkN ?_ _ | refine bkD ?_ | refine bkA ?_ _)); refine bkp (cs := #[.int .i64 0, .int .i64 0]) ?_ 0 _ rfl; (with_reducible repeat (first | refine bkN ?_ _ | refine bkD ?_ | refine bkA ?_ _)); exact BK183.out) hb); have n5_ := Az.mk (bwT (by repeat (first | (with_reducible first | exact HB.out | apply bwA | apply pbN | apply bwD | refine bwS ?_ GE168.out | refine bwS ?_ GE169.out | refine bwS ?_ GE183.out) | exact HB.out)) hb); clear HO_5; clear HO_6; clear BK168; clear BK169; clear BK183; clear HB; have HO_5 := n0_; have HO_6 := n1_; have BK168 := n2_; have BK169 := n3_; have BK183 := n4_; have HB := n5_; clear n0_ n1_ n2_ n3_ n4_ n5_; (try clear hb); (try clear hb2); (try clear hk); (try clear hi); have hcz40_0 : w39.cell? ⟨gb183, 0, none⟩ = some (.int .i64 ((rd_T25 x5_2 (ji26)).f0)) := (bkC BK183.out 0).trans rfl; have hcz40_1 : w39.cell? ⟨gb183, 1, none⟩ = some (.int .i64 ((rd_T25 x5_2 (ji26)).f1)) := (bkC BK183.out 1).trans rfl; have hfz40_0 := bkF BK183.out 0; have hfz40_1 := bkF BK183.out 1) | ((with_reducible refine gtD (N := 9) rfl ?_); refine bxE ?hg (N := 9) ?hd (cs := #[.int .i64 0, .int .i64 0]) (t := 25) ?hr ?_; (case hd => rfl); (case hg => rfl); (case hr => first | (go_simp; done) | (go_simp; rfl)); intro gb185 hg w41 hbox hb; have n0_ := Az.mk (Kd.R_below (Kd.R_elderB (by (with_reducible repeat (first | apply Kd.R_alloc | apply Kd.R_drewN | apply Kd.R_drew)); exact HO_5.out) gb185 (Nat.le_of_eq hg.symm)) hb); have n1_ := Az.mk (Kd.R_below (Kd.R_elderB (by (with_reducible repeat (first | apply Kd.R_alloc | apply Kd.R_drewN | apply Kd.R_drew)); exact HO_6.out) gb185 (Nat.le_of_eq hg.symm)) hb); have n2_ := Az.mk (bkB (g := gb168) (o := .cells #[.int .i64 a0_0, .int .i64 a0_1] 25 (0, 0)) (by (with_reducible repeat (first | refine bkN ?_ _ | refine bkD ?_ | refine bkA ?_ _)); exact BK168.out) hb); have n3_ := Az.mk (bkB (g := gb169) (o := .cells #[.int .i64 a1_0, .int .i64 a1_1] 25 (0, 0)) (by (with_reducible repeat (first | refine bkN ?_ _ | refine bkD ?_ | refine bkA ?_ _)); exact BK169.out) hb); have n4_ := Az.mk (bkB (g := gb183) (o := .cells #[.int .i64 ((rd_T25 x5_2 (ji26)).f0), .int .i64 ((rd_T25 x5_2 (ji26)).f1)] 25 (0, 0)) (by (with_reducible repeat (first | refine bkN ?_ _ | refine bkD ?_ | refine bkA ?_ _)); exact BK183.out) hb); have n5_ := Az.mk (bwT (by repeat (first | (with_reducible first | exact HB.out | apply bwA | apply pbN | apply bwD | refine bwS ?_ GE168.out | refine bwS ?_ GE169.out | refine bwS ?_ GE183.out) | exact HB.out)) hb); have n6_ := Az.mk (hbox); have n7_ := Az.mk ((by rw [hg]; exact (bwZ (by repeat (first | (with_reducible first | exact HB.out | apply bwA | apply pbN | apply bwD | refine bwS ?_ GE168.out | refine bwS ?_ GE169.out | refine bwS ?_ GE183.out) | exact HB.out))) : w.heap.size ≤ gb185)); have n8_ := Az.mk ((by rw [hg]; exact (bwZ (by repeat (first | (with_reducible first | exact HB.out | apply bwA | apply pbN | apply bwD | refine bwS ?_ GE168.out | refine bwS ?_ GE169.out | refine bwS ?_ GE183.out) | exact HB.out))) : w.heap.size ≤ gb185)); have n9_ := Az.mk ((by rw [hg]; exact Nat.ne_of_lt (blk_lt (g := gb168) (o := .cells #[.int .i64 a0_0, .int .i64 a0_1] 25 (0, 0)) (by (with_reducible repeat (first | refine bkN ?_ _ | refine bkD ?_ | refine bkA ?_ _)); exact BK168.out)) : gb168 ≠ gb185)); have n10_ := Az.mk ((by rw [hg]; exact Nat.ne_of_gt (blk_lt (g := gb168) (o := .cells #[.int .i64 a0_0, .int .i64 a0_1] 25 (0, 0)) (by (with_reducible repeat (first | refine bkN ?_ _ | refine bkD ?_ | refine bkA ?_ _)); exact BK168.out)) : gb185 ≠ gb168)); have n11_ := Az.mk ((by rw [hg]; exact Nat.ne_of_lt (blk_lt (g := gb169) (o := .cells #[.int .i64 a1_0, .int .i64 a1_1] 25 (0, 0)) (by (with_reducible repeat (first | refine bkN ?_ _ | refine bkD ?_ | refine bkA ?_ _)); exact BK169.out)) : gb169 ≠ gb185)); have n12_ := Az.mk ((by rw [hg]; exact Nat.ne_of_gt (blk_lt (g := gb169) (o := .cells #[.int .i64 a1_0, .int .i64 a1_1] 25 (0, 0)) (by (with_reducible repeat (first | refine bkN ?_ _ | refine bkD ?_ | refine bkA ?_ _)); exact BK169.out)) : gb185 ≠ gb169)); have n13_ := Az.mk ((by rw [hg]; exact Nat.ne_of_lt (blk_lt (g := gb183) (o := .cells #[.int .i64 ((rd_T25 x5_2 (ji26)).f0), .int .i64 ((rd_T25 x5_2 (ji26)).f1)] 25 (0, 0)) (by (with_reducible repeat (first | refine bkN ?_ _ | refine bkD ?_ | refine bkA ?_ _)); exact BK183.out)) : gb183 ≠ gb185)); have n14_ := Az.mk ((by rw [hg]; exact Nat.ne_of_gt (blk_lt (g := gb183) (o := .cells #[.int .i64 ((rd_T25 x5_2 (ji26)).f0), .int .i64 ((rd_T25 x5_2 (ji26)).f1)] 25 (0, 0)) (by (with_reducible repeat (first | refine bkN ?_ _ | refine bkD ?_ | refine bkA ?_ _)); exact BK183.out)) : gb185 ≠ gb183)); clear HO_5; clear HO_6; clear BK168; clear BK169; clear BK183; clear HB; have HO_5 := n0_; have HO_6 := n1_; have BK168 := n2_; have BK169 := n3_; have BK183 := n4_; have HB := n5_; have BK185 := n6_; have GW185 := n7_; have GE185 := n8_; have NB168_185 := n9_; have NB185_168 := n10_; have NB169_185 := n11_; have NB185_169 := n12_; have NB183_185 := n13_; have NB185_183 := n14_; clear n0_ n1_ n2_ n3_ n4_ n5_ n6_ n7_ n8_ n9_ n10_ n11_ n12_ n13_ n14_; clear hb hbox hg; have hnb42 := NB185_168.out; have hnc42 := NB168_185.out; have hnb43 := NB185_169.out; have hnc43 := NB169_185.out; have hnb44 := NB185_183.out; have hnc44 := NB183_185.out; have hcz45_0 : w41.cell? ⟨gb185, 0, none⟩ = some (.int .i64 0) := (bkC BK185.out 0).trans rfl; have hcz45_1 : w41.cell? ⟨gb185, 1, none⟩ = some (.int .i64 0) := (bkC BK185.out 1).trans rfl; have hfz45_0 := bkF BK185.out 0; have hfz45_1 := bkF BK185.out 1))
         go_loopg [8, 10] k2 (fun kq v8 v10 w' => ∃ (x8_3 : Int) (x10_3 : Int) (x186000_3 : Int) (x186001_3 : Int), v8 = .int .i64 x8_3 ∧ v10 = .int .i64 x10_3 ∧ Az (spec_StepsBetween.l1 kq x5_2 t178 x8_3 x10_3 a1_0 a1_1 ((rd_T25 x5_2 (ji26)).f0) ((rd_T25 x5_2 (ji26)).f1) x186000_3 x186001_3 = some r) ∧ Az (kq ≤ k2) ∧ Az (Kd.R k25 25 w' w.heap.size (fun k_ => some k_ ≠ (v179 : Value).ownBlock ∧ k_ ≠ gb168 ∧ k_ ≠ gb169 ∧ k_ ≠ gb183 ∧ k_ ≠ gb185) (.slice (some ad181) x5_2.length co32) x5_2) ∧ Az (Kd.R k25 25 w' w.heap.size (fun k_ => some k_ ≠ ((.slice (some ad181) x5_2.length co32) : Value).ownBlock ∧ k_ ≠ gb168 ∧ k_ ≠ gb169 ∧ k_ ≠ gb183 ∧ k_ ≠ gb185) v179 t178) ∧ Az (w'.heap[gb168]? = some (.cells #[.int .i64 a0_0, .int .i64 a0_1] 25 (0, 0))) ∧ Az (w'.heap[gb169]? = some (.cells #[.int .i64 a1_0, .int .i64 a1_1] 25 (0, 0))) ∧ Az (w'.heap[gb183]? = some (.cells #[.int .i64 ((rd_T25 x5_2 (ji26)).f0), .int .i64 ((rd_T25 x5_2 (ji26)).f1)] 25 (0, 0))) ∧ Az (w'.heap[gb185]? = some (.cells #[.int .i64 x186000_3, .int .i64 x186001_3] 25 (0, 0))) ∧ Az (Below w.heap.size w w'))
         case atStart => exact ⟨(t184), (0), ((rd_T25 x5_2 (ji26)).f0), ((rd_T25 x5_2 (ji26)).f1), (by first | rfl | (simp; done) | (simp [*]; done)), (by first | rfl | (simp; done) | (simp [*]; done)), H', ⟨Nat.le_refl _⟩, ⟨by (with_reducible repeat (first | apply Kd.R_alloc | apply Kd.R_drewN | apply Kd.R_drew)); exact Kd.R_mono (Kd.R_far (p := ⟨gb185, 1, none⟩) (Kd.R_far (p := ⟨gb185, 0, none⟩) (Kd.R_mono HO_5.out (fun k_ hk => (⟨hk, hk.2⟩ : _ ∧ k_ ≠ gb185))) (fun _ hk => hk.2) (.int .i64 ((rd_T25 x5_2 (ji26)).f0))) (fun _ hk => hk.2) (.int .i64 ((rd_T25 x5_2 (ji26)).f1))) (fun _ hk => ⟨hk.1.1.1.1, ⟨hk.1.1.1.2.1, ⟨hk.1.1.1.2.2, ⟨hk.1.1.2, hk.1.2⟩⟩⟩⟩)⟩, ⟨by (with_reducible repeat (first | apply Kd.R_alloc | apply Kd.R_drewN | apply Kd.R_drew)); exact Kd.R_mono (Kd.R_far (p := ⟨gb185, 1, none⟩) (Kd.R_far (p := ⟨gb185, 0, none⟩) (Kd.R_mono HO_6.out (fun k_ hk => (⟨hk, hk.2⟩ : _ ∧ k_ ≠ gb185))) (fun _ hk => hk.2) (.int .i64 ((rd_T25 x5_2 (ji26)).f0))) (fun _ hk => hk.2) (.int .i64 ((rd_T25 x5_2 (ji26)).f1))) (fun _ hk => ⟨hk.1.1.1.1, ⟨hk.1.1.1.2.1, ⟨hk.1.1.1.2.2, ⟨hk.1.1.2, hk.1.2⟩⟩⟩⟩)⟩, ⟨by (with_reducible repeat (first | refine bkN ?_ _ | refine bkD ?_ | refine bkA ?_ _)); refine bkf ?_ NB168_185.out _; (with_reducible repeat (first | refine bkN ?_ _ | refine bkD ?_ | refine bkA ?_ _)); refine bkf ?_ NB168_185.out _; (with_reducible repeat (first | refine bkN ?_ _ | refine bkD ?_ | refine bkA ?_ _)); exact BK168.out⟩, ⟨by (with_reducible repeat (first | refine bkN ?_ _ | refine bkD ?_ | refine bkA ?_ _)); refine bkf ?_ NB169_185.out _; (with_reducible repeat (first | refine bkN ?_ _ | refine bkD ?_ | refine bkA ?_ _)); refine bkf ?_ NB169_185.out _; (with_reducible repeat (first | refine bkN ?_ _ | refine bkD ?_ | refine bkA ?_ _)); exact BK169.out⟩, ⟨by (with_reducible repeat (first | refine bkN ?_ _ | refine bkD ?_ | refine bkA ?_ _)); refine bkf ?_ NB183_185.out _; (with_reducible repeat (first | refine bkN ?_ _ | refine bkD ?_ | refine bkA ?_ _)); refine bkf ?_ NB183_185.out _; (with_reducible repeat (first | refine bkN ?_ _ | refine bkD ?_ | refine bkA ?_ _)); exact BK183.out⟩, ⟨by (with_reducible repeat (first | refine bkN ?_ _ | refine bkD ?_ | refine bkA ?_ _)); refine bkp (cs := #[.int .i64 ((rd_T25 x5_2 (ji26)).f0), .int .i64 0]) ?_ 1 _ rfl; (with_reducible repeat (first | refine bkN ?_ _ | refine bkD ?_ | refine bkA ?_ _)); refine bkp (cs := #[.int .i64 0, .int .i64 0]) ?_ 0 _ rfl; (with_reducible repeat (first | refine bkN ?_ _ | refine bkD ?_ | refine bkA ?_ _)); exact BK185.out⟩, ⟨by repeat (first | (with_reducible first | exact HB.out | apply bwA | apply pbN | apply bwD | refine bwS ?_ GE168.out | refine bwS ?_ GE169.out | refine bwS ?_ GE183.out | refine bwS ?_ GE185.out) | exact HB.out)⟩⟩
         case round =>
          clear H'
          try clear c1
          try clear p1
          try clear q1
          try clear hx1
          try clear c2
          try clear p2
          try clear c3
          try clear c4
          try clear c5
          try clear p6
          try clear c7
          try clear c8
          try clear c9
          try clear c14
          try clear c17
          try clear c18
          try clear p18
          try clear q18
          try clear hx18
          try clear c19
          try clear c21
          try clear c27
          try clear c27b0
          try clear c28
          try clear c28b0
          try clear c29
          try clear c29b0
          try clear c34
          try clear c35
          try clear c37
          try clear c42
          try clear c43
          try clear c44
          try clear hcz10_0
          try clear hcz10_1
          try clear hcz12_0
          try clear hcz12_1
          try clear hcz15_0
          try clear hcz15_1
          try clear hcz22_0
          try clear hcz22_1
          try clear hcz36_0
          try clear hcz36_1
          try clear hcz38_0
          try clear hcz38_1
          try clear hcz40_0
          try clear hcz40_1
          try clear hcz45_0
          try clear hcz45_1
          try clear hfz10_0
          try clear hfz10_1
          try clear hfz12_0
          try clear hfz12_1
          try clear hfz15_0
          try clear hfz15_1
          try clear hfz22_0
          try clear hfz22_1
          try clear hfz36_0
          try clear hfz36_1
          try clear hfz38_0
          try clear hfz38_1
          try clear hfz40_0
          try clear hfz40_1
          try clear hfz45_0
          try clear hfz45_1
          try clear hx181_0
          try clear hx181_1
          try clear hx182_0
          try clear hx182_1
          try clear p181
          try clear p182
          try clear p2
          try clear q181
          try clear q182
          obtain ⟨x8_3, x10_3, x186000_3, x186001_3, rfl, rfl, HA, HK3, HO_5, HO_6, BK168, BK169, BK183, BK185, HB⟩ := hrel
          cases gk with
          | zero => exact absurd HA.out (by simp [spec_StepsBetween.l1])
          | succ k3 =>
           have H := HA.out
           clear HA
           simp only [spec_StepsBetween.l1] at H
           by_cases c46 : x10_3 < (t178.length : Int)
           ·rw [if_pos c46] at H
            have c46b0 : decide (x10_3 < (t178.length : Int)) = true := decide_eq_true c46
            clear c46
            by_cases c47 : 0 ≤ x10_3
            ·rw [if_pos c47] at H
             have c47b0 : decide (0 ≤ x10_3) = true := decide_eq_true c47
             clear c47
             replace H := Option.bind_eq_some_iff.mp H
             obtain ⟨t193, A480, H⟩ := H
             replace H : (if t193 = 1 then ((spec_SlopeDistance.f k3 ((rd_T25 t178 x10_3).f0) ((rd_T25 t178 x10_3).f1) a1_0 a1_1).bind fun t195 => (if t195 < x8_3 then ((spec_SlopeDistance.f k3 ((rd_T25 t178 x10_3).f0) ((rd_T25 t178 x10_3).f1) a1_0 a1_1).bind fun t197 => (spec_StepsBetween.l1 k3 x5_2 t178 t197 (wrap64 (x10_3 + 1)) a1_0 a1_1 ((rd_T25 x5_2 (ji26)).f0) ((rd_T25 x5_2 (ji26)).f1) ((rd_T25 t178 x10_3).f0) ((rd_T25 t178 x10_3).f1))) else (spec_StepsBetween.l1 k3 x5_2 t178 x8_3 (wrap64 (x10_3 + 1)) a1_0 a1_1 ((rd_T25 x5_2 (ji26)).f0) ((rd_T25 x5_2 (ji26)).f1) x186000_3 x186001_3))) else (spec_StepsBetween.l1 k3 x5_2 t178 x8_3 (wrap64 (x10_3 + 1)) a1_0 a1_1 ((rd_T25 x5_2 (ji26)).f0) ((rd_T25 x5_2 (ji26)).f1) x186000_3 x186001_3)) = some r := H
             have A48 := Az.mk A480
             clear A480
             by_cases c49 : t193 = 1
             ·rw [if_pos c49] at H
              have c49b0 : (t193 == 1) = true := beq_iff_eq.mpr c49
              have c49b1 : (t193 != 1) = false := bne_eq_false_iff_eq.mpr c49
              clear c49
              replace H := Option.bind_eq_some_iff.mp H
              obtain ⟨t195, A500, H⟩ := H
              replace H : (if t195 < x8_3 then ((spec_SlopeDistance.f k3 ((rd_T25 t178 x10_3).f0) ((rd_T25 t178 x10_3).f1) a1_0 a1_1).bind fun t197 => (spec_StepsBetween.l1 k3 x5_2 t178 t197 (wrap64 (x10_3 + 1)) a1_0 a1_1 ((rd_T25 x5_2 (ji26)).f0) ((rd_T25 x5_2 (ji26)).f1) ((rd_T25 t178 x10_3).f0) ((rd_T25 t178 x10_3).f1))) else (spec_StepsBetween.l1 k3 x5_2 t178 x8_3 (wrap64 (x10_3 + 1)) a1_0 a1_1 ((rd_T25 x5_2 (ji26)).f0) ((rd_T25 x5_2 (ji26)).f1) x186000_3 x186001_3)) = some r := H
              have A50 := Az.mk A500
              clear A500
              by_cases c51 : t195 < x8_3
              ·rw [if_pos c51] at H
               have c51b0 : decide (t195 < x8_3) = true := decide_eq_true c51
               clear c51
               replace H := Option.bind_eq_some_iff.mp H
               obtain ⟨t197, A520, H⟩ := H
               replace H : (spec_StepsBetween.l1 k3 x5_2 t178 t197 (wrap64 (x10_3 + 1)) a1_0 a1_1 ((rd_T25 x5_2 (ji26)).f0) ((rd_T25 x5_2 (ji26)).f1) ((rd_T25 t178 x10_3).f0) ((rd_T25 t178 x10_3).f1)) = some r := H
               have A52 := Az.mk A520
               clear A520
               have H' := Az.mk H
               clear H
               obtain ⟨Ao53, co53, eo53⟩ := Kd.R_slice HO_6.out
               subst eo53
               try go_wp2
               have n0_ := Az.mk (Kd.R_drew HO_5.out)
               have n1_ := Az.mk (Kd.R_drew HO_6.out)
               have n2_ := Az.mk (bkD BK168.out)
               have n3_ := Az.mk (bkD BK169.out)
               have n4_ := Az.mk (bkD BK183.out)
               have n5_ := Az.mk (bkD BK185.out)
               have n6_ := Az.mk (bwD HB.out)
               clear HO_5
               clear HO_6
               clear BK168
               clear BK169
               clear BK183
               clear BK185
               clear HB
               have HO_5 := n0_
               have HO_6 := n1_
               have BK168 := n2_
               have BK169 := n3_
               have BK183 := n4_
               have BK185 := n5_
               have HB := n6_
               clear n0_ n1_ n2_ n3_ n4_ n5_ n6_
               have p192 : 0 ≤ (x10_3 : Int) := of_decide_eq_true (by first | (with_reducible assumption) | assumption)
               have q192 : x10_3 < (t178.length : Int) := of_decide_eq_true (by first | (with_reducible assumption) | assumption)
               obtain ⟨ad192, e192, hx192_0, hx192_1⟩ := at_T25 (Kd.R_reads' HO_6.out).2.2 x10_3 p192 q192
               cases e192
               replace p192 := eq_true p192
               replace q192 := eq_true q192
               have p194 : 0 ≤ (x10_3 : Int) := of_decide_eq_true (by first | (with_reducible assumption) | assumption)
               have q194 : x10_3 < (t178.length : Int) := of_decide_eq_true (by first | (with_reducible assumption) | assumption)
               obtain ⟨ad194, e194, hx194_0, hx194_1⟩ := at_T25 (Kd.R_reads' HO_6.out).2.2 x10_3 p194 q194
               obtain rfl : ad192 = ad194 := (by injection e194)
               replace p194 := eq_true p194
               replace q194 := eq_true q194
               refine start_ (n := 17) (S := fun w' => w'.cell? ⟨gb183, 0, none⟩ = some (.int .i64 ((rd_T25 x5_2 (ji26)).f0)) ∧ w'.cell? ⟨gb183, 1, none⟩ = some (.int .i64 ((rd_T25 x5_2 (ji26)).f1)) ∧ w'.cell? ⟨gb169, 0, none⟩ = some (.int .i64 a1_0) ∧ w'.cell? ⟨gb169, 1, none⟩ = some (.int .i64 a1_1) ∧ w'.cell? (ad192.add ((x10_3).toNat * 2)) = some (.int .i64 ((rd_T25 t178 x10_3).f0)) ∧ w'.cell? ⟨(ad192.add ((x10_3).toNat * 2)).block, (ad192.add ((x10_3).toNat * 2)).off + 1, none⟩ = some (.int .i64 ((rd_T25 t178 x10_3).f1)) ∧ w'.cell? (ad192.add ((x10_3).toNat * 2)) = some (.int .i64 ((rd_T25 t178 x10_3).f0)) ∧ w'.cell? ⟨(ad192.add ((x10_3).toNat * 2)).block, (ad192.add ((x10_3).toNat * 2)).off + 1, none⟩ = some (.int .i64 ((rd_T25 t178 x10_3).f1))) (ds := []) #[false, false, false, false, false, false, false, false, false, false, false, false, false, false, false, false, false] (by kernel_rfl) rfl rfl ⟨(bkC BK183.out 0).trans rfl, (bkC BK183.out 1).trans rfl, (bkC BK169.out 0).trans rfl, (bkC BK169.out 1).trans rfl, hx192_0, hx192_1, hx194_0, hx194_1⟩ (fun hHeld => ?_); refine with_tabW spec_StepsBetween.tab12 spec_StepsBetween.bits12 (fun HT_ HW_ => ?_)
               generalize wr.drew = w54 at HO_5 HO_6 BK168 BK169 BK183 BK185 HB hx192_0 hx192_1 hx194_0 hx194_1 hHeld ⊢
               refine pure_ (i := 1) (N := some 48) (v := ?_) (a' := ?_) #[false, true, false, false, false, false, false, false, false, false, false, false, false, false, false, false, false] rfl rfl (any_of HT_.out (by kernel_rfl)) (fun _ _ _ h => h) (Or.inl ⟨by rfl, ?_⟩) ?_ ?_
               rotate_left
               ·intro w'
                go_simp
                with_reducible rfl
               rotate_left
               ·simp only [Act.put, List.setIfInBounds_toArray, List.set_cons_zero, List.set_cons_succ, i64_w, i32_w]
                rfl
               refine pure_ (i := 2) (N := some 49) (v := ?_) (a' := ?_) #[false, true, true, false, false, false, false, false, false, false, false, false, false, false, false, false, false] rfl rfl (any_of HT_.out (by kernel_rfl)) (fun _ _ _ h => h) (Or.inl ⟨by rfl, ?_⟩) ?_ ?_
               rotate_left
               ·intro w'
                go_simp
                with_reducible rfl
               rotate_left
               ·simp only [Act.put, List.setIfInBounds_toArray, List.set_cons_zero, List.set_cons_succ, i64_w, i32_w]
                rfl
               refine pure_ (i := 3) (N := some 50) (v := ?_) (a' := ?_) #[false, true, true, true, false, false, false, false, false, false, false, false, false, false, false, false, false] rfl rfl (any_of HT_.out (by kernel_rfl)) (fun _ _ _ h => h) (Or.inl ⟨by rfl, ?_⟩) ?_ ?_
               rotate_left
               ·intro w'
                go_simp
                with_reducible rfl
               rotate_left
               ·simp only [Act.put, List.setIfInBounds_toArray, List.set_cons_zero, List.set_cons_succ, i64_w, i32_w]
                rfl
               refine take_ (i := 0) (N := some 47) (v := ?_) (a' := ?_) #[true, true, true, true, false, false, false, false, false, false, false, false, false, false, false, false, false] rfl rfl (take_ofW HT_.out HW_.out (by kernel_rfl)) (fun _ _ _ h => h) (Or.inl ⟨by rfl, ?_⟩) hHeld ?_ ?_
               rotate_left
               ·rintro w' ⟨s0, s1, s2, s3, s4, s5, s6, s7⟩
                go_simp
                with_reducible rfl
               rotate_left
               ·simp only [Act.put, List.setIfInBounds_toArray, List.set_cons_zero, List.set_cons_succ, i64_w, i32_w]
                rfl
               refine take_ (i := 4) (N := some 51) (v := ?_) (a' := ?_) #[true, true, true, true, true, false, false, false, false, false, false, false, false, false, false, false, false] rfl rfl (take_ofW HT_.out HW_.out (by kernel_rfl)) (fun _ _ _ h => h) (Or.inl ⟨by rfl, ?_⟩) hHeld ?_ ?_
               rotate_left
               ·rintro w' ⟨s0, s1, s2, s3, s4, s5, s6, s7⟩
                go_simp
                with_reducible rfl
               rotate_left
               ·simp only [Act.put, List.setIfInBounds_toArray, List.set_cons_zero, List.set_cons_succ, i64_w, i32_w]
                rfl
               refine one_ (i := 5) (N := some 52) #[true, true, true, true, true, true, false, false, false, false, false, false, false, false, false, false, false] rfl rfl (one_of HT_.out (by kernel_rfl)) (by decide) (fun K hK => ?_)
               refine goes_ Try.func20 (by kernel_rfl) rfl #[.agg #[.int .i64 ((rd_T25 x5_2 (ji26)).f0), .int .i64 ((rd_T25 x5_2 (ji26)).f1)], .agg #[.int .i64 ((rd_T25 t178 x10_3).f0), .int .i64 ((rd_T25 t178 x10_3).f1)]] (by rfl) rfl rfl (by (try simp only [List.map_toArray, List.map_cons, List.map_nil]); first | done | (simp only [hji26]; rfl) | rfl | (simp only [List.length_drop, List.length_take]; rfl)) ?_
               with_reducible refine (spec_CrossNumber.calls k3 ((rd_T25 x5_2 (ji26)).f0) ((rd_T25 x5_2 (ji26)).f1) ((rd_T25 t178 x10_3).f0) ((rd_T25 t178 x10_3).f1) t193 _ A48.out).mono ?_
               rintro e w55 ⟨rfl, hb⟩
               have HS4_ := (hb.cell (World.block_lt_of_cell? _ _ (hHeld.2.2.2.2.1))).trans (hHeld.2.2.2.2.1)
               have HS5_ := (hb.cell (World.block_lt_of_cell? _ _ (hHeld.2.2.2.2.2.1))).trans (hHeld.2.2.2.2.2.1)
               have HS6_ := (hb.cell (World.block_lt_of_cell? _ _ (hHeld.2.2.2.2.2.2.1))).trans (hHeld.2.2.2.2.2.2.1)
               have HS7_ := (hb.cell (World.block_lt_of_cell? _ _ (hHeld.2.2.2.2.2.2.2))).trans (hHeld.2.2.2.2.2.2.2)
               refine ⟨_, rfl, ?_⟩
               have n0_ := Az.mk (Kd.R_below (by (with_reducible repeat (first | apply Kd.R_alloc | apply Kd.R_drewN | apply Kd.R_drew)); exact HO_5.out) hb)
               have n1_ := Az.mk (Kd.R_below (by (with_reducible repeat (first | apply Kd.R_alloc | apply Kd.R_drewN | apply Kd.R_drew)); exact HO_6.out) hb)
               have n2_ := Az.mk (bkB (g := gb168) (o := .cells #[.int .i64 a0_0, .int .i64 a0_1] 25 (0, 0)) (by (with_reducible repeat (first | refine bkN ?_ _ | refine bkD ?_ | refine bkA ?_ _)); exact BK168.out) hb)
               have n3_ := Az.mk (bkB (g := gb169) (o := .cells #[.int .i64 a1_0, .int .i64 a1_1] 25 (0, 0)) (by (with_reducible repeat (first | refine bkN ?_ _ | refine bkD ?_ | refine bkA ?_ _)); exact BK169.out) hb)
               have n4_ := Az.mk (bkB (g := gb183) (o := .cells #[.int .i64 ((rd_T25 x5_2 (ji26)).f0), .int .i64 ((rd_T25 x5_2 (ji26)).f1)] 25 (0, 0)) (by (with_reducible repeat (first | refine bkN ?_ _ | refine bkD ?_ | refine bkA ?_ _)); exact BK183.out) hb)
               have n5_ := Az.mk (bkB (g := gb185) (o := .cells #[.int .i64 x186000_3, .int .i64 x186001_3] 25 (0, 0)) (by (with_reducible repeat (first | refine bkN ?_ _ | refine bkD ?_ | refine bkA ?_ _)); exact BK185.out) hb)
               have n6_ := Az.mk (bwT (by repeat (first | (with_reducible first | exact HB.out | apply bwA | apply pbN | apply bwD | refine bwS ?_ GE168.out | refine bwS ?_ GE169.out | refine bwS ?_ GE183.out | refine bwS ?_ GE185.out) | exact HB.out)) hb)
               clear HO_5
               clear HO_6
               clear BK168
               clear BK169
               clear BK183
               clear BK185
               clear HB
               have HO_5 := n0_
               have HO_6 := n1_
               have BK168 := n2_
               have BK169 := n3_
               have BK183 := n4_
               have BK185 := n5_
               have HB := n6_
               clear n0_ n1_ n2_ n3_ n4_ n5_ n6_
               (try clear hb)
               (try clear hb2)
               (try clear hk)
               (try clear hi)
               refine hK.out _ _ ⟨(bkC BK183.out 0).trans rfl, (bkC BK183.out 1).trans rfl, (bkC BK169.out 0).trans rfl, (bkC BK169.out 1).trans rfl, HS4_, HS5_, HS6_, HS7_⟩ (fun hHeld => ?_)
               clear hK K
               refine norm_ (a' := ?_) ?_ ?_
               rotate_left
               ·show Act.put _ (some 52) _ = _
                simp only [Act.put, List.setIfInBounds_toArray, List.set_cons_zero, List.set_cons_succ, i64_w, i32_w]
                rfl
               refine pure_ (i := 6) (N := some 53) (v := ?_) (a' := ?_) #[true, true, true, true, true, true, true, false, false, false, false, false, false, false, false, false, false] rfl rfl (any_of HT_.out (by kernel_rfl)) (fun _ _ _ h => h) (Or.inl ⟨by rfl, ?_⟩) ?_ ?_
               rotate_left
               ·intro w'
                go_simp
                with_reducible rfl
               rotate_left
               ·simp only [Act.put, List.setIfInBounds_toArray, List.set_cons_zero, List.set_cons_succ, i64_w, i32_w]
                rfl
               refine pure_ (i := 7) (N := some 54) (v := ?_) (a' := ?_) #[true, true, true, true, true, true, true, true, false, false, false, false, false, false, false, false, false] rfl rfl (any_of HT_.out (by kernel_rfl)) (fun _ _ _ h => h) (Or.inl ⟨by rfl, ?_⟩) ?_ ?_
               rotate_left
               ·intro w'
                go_simp
                with_reducible rfl
               rotate_left
               ·simp only [Act.put, List.setIfInBounds_toArray, List.set_cons_zero, List.set_cons_succ, i64_w, i32_w]
                rfl
               refine pure_ (i := 8) (N := some 55) (v := ?_) (a' := ?_) #[true, true, true, true, true, true, true, true, true, false, false, false, false, false, false, false, false] rfl rfl (any_of HT_.out (by kernel_rfl)) (fun _ _ _ h => h) (Or.inl ⟨by rfl, ?_⟩) ?_ ?_
               rotate_left
               ·intro w'
                go_simp
                with_reducible rfl
               rotate_left
               ·simp only [Act.put, List.setIfInBounds_toArray, List.set_cons_zero, List.set_cons_succ, i64_w, i32_w]
                rfl
               refine pure_ (i := 9) (N := some 56) (v := ?_) (a' := ?_) #[true, true, true, true, true, true, true, true, true, true, false, false, false, false, false, false, false] rfl rfl (any_of HT_.out (by kernel_rfl)) (fun _ _ _ h => h) (Or.inl ⟨by rfl, ?_⟩) ?_ ?_
               rotate_left
               ·intro w'
                go_simp
                with_reducible rfl
               rotate_left
               ·simp only [Act.put, List.setIfInBounds_toArray, List.set_cons_zero, List.set_cons_succ, i64_w, i32_w]
                rfl
               refine pure_ (i := 10) (N := some 57) (v := ?_) (a' := ?_) #[true, true, true, true, true, true, true, true, true, true, true, false, false, false, false, false, false] rfl rfl (any_of HT_.out (by kernel_rfl)) (fun _ _ _ h => h) (Or.inl ⟨by rfl, ?_⟩) ?_ ?_
               rotate_left
               ·intro w'
                go_simp
                with_reducible rfl
               rotate_left
               ·simp only [Act.put, List.setIfInBounds_toArray, List.set_cons_zero, List.set_cons_succ, i64_w, i32_w]
                rfl
               refine pure_ (i := 14) (N := some 61) (v := ?_) (a' := ?_) #[true, true, true, true, true, true, true, true, true, true, true, false, false, false, true, false, false] rfl rfl (any_of HT_.out (by kernel_rfl)) (fun _ _ _ h => h) (Or.inl ⟨by rfl, ?_⟩) ?_ ?_
               rotate_left
               ·intro w'
                go_simp
                with_reducible rfl
               rotate_left
               ·simp only [Act.put, List.setIfInBounds_toArray, List.set_cons_zero, List.set_cons_succ, i64_w, i32_w]
                rfl
               refine take_ (i := 11) (N := some 58) (v := ?_) (a' := ?_) #[true, true, true, true, true, true, true, true, true, true, true, true, false, false, true, false, false] rfl rfl (take_ofW HT_.out HW_.out (by kernel_rfl)) (fun _ _ _ h => h) (Or.inl ⟨by rfl, ?_⟩) hHeld ?_ ?_
               rotate_left
               ·rintro w' ⟨s0, s1, s2, s3, s4, s5, s6, s7⟩
                go_simp
                with_reducible rfl
               rotate_left
               ·simp only [Act.put, List.setIfInBounds_toArray, List.set_cons_zero, List.set_cons_succ, i64_w, i32_w]
                rfl
               refine take_ (i := 12) (N := some 59) (v := ?_) (a' := ?_) #[true, true, true, true, true, true, true, true, true, true, true, true, true, false, true, false, false] rfl rfl (take_ofW HT_.out HW_.out (by kernel_rfl)) (fun _ _ _ h => h) (Or.inl ⟨by rfl, ?_⟩) hHeld ?_ ?_
               rotate_left
               ·rintro w' ⟨s0, s1, s2, s3, s4, s5, s6, s7⟩
                go_simp
                with_reducible rfl
               rotate_left
               ·simp only [Act.put, List.setIfInBounds_toArray, List.set_cons_zero, List.set_cons_succ, i64_w, i32_w]
                rfl
               refine one_ (i := 13) (N := some 60) #[true, true, true, true, true, true, true, true, true, true, true, true, true, true, true, false, false] rfl rfl (one_of HT_.out (by kernel_rfl)) (by decide) (fun K hK => ?_)
               refine goes_ Try.func5 (by kernel_rfl) rfl #[.agg #[.int .i64 ((rd_T25 t178 x10_3).f0), .int .i64 ((rd_T25 t178 x10_3).f1)], .agg #[.int .i64 a1_0, .int .i64 a1_1]] (by rfl) rfl rfl (by (try simp only [List.map_toArray, List.map_cons, List.map_nil]); first | done | rfl | (simp only [List.length_drop, List.length_take]; rfl)) ?_
               with_reducible refine (spec_SlopeDistance.calls k3 ((rd_T25 t178 x10_3).f0) ((rd_T25 t178 x10_3).f1) a1_0 a1_1 t195 _ A50.out).mono ?_
               rintro e w56 ⟨rfl, hb⟩
               have HS4_ := (hb.cell (World.block_lt_of_cell? _ _ (hHeld.2.2.2.2.1))).trans (hHeld.2.2.2.2.1)
               have HS5_ := (hb.cell (World.block_lt_of_cell? _ _ (hHeld.2.2.2.2.2.1))).trans (hHeld.2.2.2.2.2.1)
               have HS6_ := (hb.cell (World.block_lt_of_cell? _ _ (hHeld.2.2.2.2.2.2.1))).trans (hHeld.2.2.2.2.2.2.1)
               have HS7_ := (hb.cell (World.block_lt_of_cell? _ _ (hHeld.2.2.2.2.2.2.2))).trans (hHeld.2.2.2.2.2.2.2)
               refine ⟨_, rfl, ?_⟩
               have n0_ := Az.mk (Kd.R_below (by (with_reducible repeat (first | apply Kd.R_alloc | apply Kd.R_drewN | apply Kd.R_drew)); exact HO_5.out) hb)
               have n1_ := Az.mk (Kd.R_below (by (with_reducible repeat (first | apply Kd.R_alloc | apply Kd.R_drewN | apply Kd.R_drew)); exact HO_6.out) hb)
               have n2_ := Az.mk (bkB (g := gb168) (o := .cells #[.int .i64 a0_0, .int .i64 a0_1] 25 (0, 0)) (by (with_reducible repeat (first | refine bkN ?_ _ | refine bkD ?_ | refine bkA ?_ _)); exact BK168.out) hb)
               have n3_ := Az.mk (bkB (g := gb169) (o := .cells #[.int .i64 a1_0, .int .i64 a1_1] 25 (0, 0)) (by (with_reducible repeat (first | refine bkN ?_ _ | refine bkD ?_ | refine bkA ?_ _)); exact BK169.out) hb)
               have n4_ := Az.mk (bkB (g := gb183) (o := .cells #[.int .i64 ((rd_T25 x5_2 (ji26)).f0), .int .i64 ((rd_T25 x5_2 (ji26)).f1)] 25 (0, 0)) (by (with_reducible repeat (first | refine bkN ?_ _ | refine bkD ?_ | refine bkA ?_ _)); exact BK183.out) hb)
               have n5_ := Az.mk (bkB (g := gb185) (o := .cells #[.int .i64 x186000_3, .int .i64 x186001_3] 25 (0, 0)) (by (with_reducible repeat (first | refine bkN ?_ _ | refine bkD ?_ | refine bkA ?_ _)); exact BK185.out) hb)
               have n6_ := Az.mk (bwT (by repeat (first | (with_reducible first | exact HB.out | apply bwA | apply pbN | apply bwD | refine bwS ?_ GE168.out | refine bwS ?_ GE169.out | refine bwS ?_ GE183.out | refine bwS ?_ GE185.out) | exact HB.out)) hb)
               clear HO_5
               clear HO_6
               clear BK168
               clear BK169
               clear BK183
               clear BK185
               clear HB
               have HO_5 := n0_
               have HO_6 := n1_
               have BK168 := n2_
               have BK169 := n3_
               have BK183 := n4_
               have BK185 := n5_
               have HB := n6_
               clear n0_ n1_ n2_ n3_ n4_ n5_ n6_
               (try clear hb)
               (try clear hb2)
               (try clear hk)
               (try clear hi)
               refine hK.out _ _ ⟨(bkC BK183.out 0).trans rfl, (bkC BK183.out 1).trans rfl, (bkC BK169.out 0).trans rfl, (bkC BK169.out 1).trans rfl, HS4_, HS5_, HS6_, HS7_⟩ (fun hHeld => ?_)
               clear hK K
               refine norm_ (a' := ?_) ?_ ?_
               rotate_left
               ·show Act.put _ (some 60) _ = _
                simp only [Act.put, List.setIfInBounds_toArray, List.set_cons_zero, List.set_cons_succ, i64_w, i32_w]
                rfl
               refine pure_ (i := 15) (N := some 62) (v := ?_) (a' := ?_) #[true, true, true, true, true, true, true, true, true, true, true, true, true, true, true, true, false] rfl rfl (any_of HT_.out (by kernel_rfl)) (fun _ _ _ h => h) (Or.inl ⟨by rfl, ?_⟩) ?_ ?_
               rotate_left
               ·intro w'
                go_simp
                with_reducible rfl
               rotate_left
               ·simp only [Act.put, List.setIfInBounds_toArray, List.set_cons_zero, List.set_cons_succ, i64_w, i32_w]
                rfl
               refine pure_ (i := 16) (N := some 63) (v := ?_) (a' := ?_) #[true, true, true, true, true, true, true, true, true, true, true, true, true, true, true, true, true] rfl rfl (any_of HT_.out (by kernel_rfl)) (fun _ _ _ h => h) (Or.inl ⟨by rfl, ?_⟩) ?_ ?_
               rotate_left
               ·intro w'
                go_simp
                with_reducible rfl
               rotate_left
               ·simp only [Act.put, List.setIfInBounds_toArray, List.set_cons_zero, List.set_cons_succ, i64_w, i32_w]
                rfl
               refine done_ (done_of HT_.out (by kernel_rfl)) ?_
               try go_wp2
               have n0_ := Az.mk (Kd.R_drew HO_5.out)
               have n1_ := Az.mk (Kd.R_drew HO_6.out)
               have n2_ := Az.mk (bkD BK168.out)
               have n3_ := Az.mk (bkD BK169.out)
               have n4_ := Az.mk (bkD BK183.out)
               have n5_ := Az.mk (bkD BK185.out)
               have n6_ := Az.mk (bwD HB.out)
               clear HO_5
               clear HO_6
               clear BK168
               clear BK169
               clear BK183
               clear BK185
               clear HB
               have HO_5 := n0_
               have HO_6 := n1_
               have BK168 := n2_
               have BK169 := n3_
               have BK183 := n4_
               have BK185 := n5_
               have HB := n6_
               clear n0_ n1_ n2_ n3_ n4_ n5_ n6_
               have p196 : 0 ≤ (x10_3 : Int) := of_decide_eq_true (by first | (with_reducible assumption) | assumption)
               have q196 : x10_3 < (t178.length : Int) := of_decide_eq_true (by first | (with_reducible assumption) | assumption)
               obtain ⟨ad196, e196, hx196_0, hx196_1⟩ := at_T25 (Kd.R_reads' HO_6.out).2.2 x10_3 p196 q196
               obtain rfl : ad192 = ad196 := (by injection e196)
               replace p196 := eq_true p196
               replace q196 := eq_true q196
               refine start_ (n := 7) (S := fun w' => w'.cell? ⟨gb169, 0, none⟩ = some (.int .i64 a1_0) ∧ w'.cell? ⟨gb169, 1, none⟩ = some (.int .i64 a1_1) ∧ w'.cell? (ad192.add ((x10_3).toNat * 2)) = some (.int .i64 ((rd_T25 t178 x10_3).f0)) ∧ w'.cell? ⟨(ad192.add ((x10_3).toNat * 2)).block, (ad192.add ((x10_3).toNat * 2)).off + 1, none⟩ = some (.int .i64 ((rd_T25 t178 x10_3).f1))) (ds := []) #[false, false, false, false, false, false, false] (by kernel_rfl) rfl rfl ⟨(bkC BK169.out 0).trans rfl, (bkC BK169.out 1).trans rfl, hx196_0, hx196_1⟩ (fun hHeld => ?_)
               generalize w56.drew = w57 at HO_5 HO_6 BK168 BK169 BK183 BK185 HB hx196_0 hx196_1 hHeld ⊢
               refine pure_ (i := 0) (N := some 64) (v := ?_) (a' := ?_) #[true, false, false, false, false, false, false] rfl rfl (by kernel_rfl) (fun _ _ _ h => h) (Or.inl ⟨by rfl, ?_⟩) ?_ ?_
               rotate_left
               ·intro w'
                go_simp
                with_reducible rfl
               rotate_left
               ·simp only [Act.put, List.setIfInBounds_toArray, List.set_cons_zero, List.set_cons_succ, i64_w, i32_w]
                rfl
               refine pure_ (i := 1) (N := some 65) (v := ?_) (a' := ?_) #[true, true, false, false, false, false, false] rfl rfl (by kernel_rfl) (fun _ _ _ h => h) (Or.inl ⟨by rfl, ?_⟩) ?_ ?_
               rotate_left
               ·intro w'
                go_simp
                with_reducible rfl
               rotate_left
               ·simp only [Act.put, List.setIfInBounds_toArray, List.set_cons_zero, List.set_cons_succ, i64_w, i32_w]
                rfl
               refine pure_ (i := 2) (N := some 66) (v := ?_) (a' := ?_) #[true, true, true, false, false, false, false] rfl rfl (by kernel_rfl) (fun _ _ _ h => h) (Or.inl ⟨by rfl, ?_⟩) ?_ ?_
               rotate_left
               ·intro w'
                go_simp
                with_reducible rfl
               rotate_left
               ·simp only [Act.put, List.setIfInBounds_toArray, List.set_cons_zero, List.set_cons_succ, i64_w, i32_w]
                rfl
               refine take_ (i := 3) (N := some 67) (v := ?_) (a' := ?_) #[true, true, true, true, false, false, false] rfl rfl (by kernel_rfl) (fun _ _ _ h => h) (Or.inl ⟨by rfl, ?_⟩) hHeld ?_ ?_
               rotate_left
               ·rintro w' ⟨s0, s1, s2, s3⟩
                go_simp
                with_reducible rfl
               rotate_left
               ·simp only [Act.put, List.setIfInBounds_toArray, List.set_cons_zero, List.set_cons_succ, i64_w, i32_w]
                rfl
               refine take_ (i := 4) (N := some 68) (v := ?_) (a' := ?_) #[true, true, true, true, true, false, false] rfl rfl (by kernel_rfl) (fun _ _ _ h => h) (Or.inl ⟨by rfl, ?_⟩) hHeld ?_ ?_
               rotate_left
               ·rintro w' ⟨s0, s1, s2, s3⟩
                go_simp
                with_reducible rfl
               rotate_left
               ·simp only [Act.put, List.setIfInBounds_toArray, List.set_cons_zero, List.set_cons_succ, i64_w, i32_w]
                rfl
               refine one_ (i := 5) (N := some 69) #[true, true, true, true, true, true, false] rfl rfl (by kernel_rfl) (by decide) (fun K hK => ?_)
               refine goes_ Try.func5 (by kernel_rfl) rfl #[.agg #[.int .i64 ((rd_T25 t178 x10_3).f0), .int .i64 ((rd_T25 t178 x10_3).f1)], .agg #[.int .i64 a1_0, .int .i64 a1_1]] (by rfl) rfl rfl (by (try simp only [List.map_toArray, List.map_cons, List.map_nil]); first | done | rfl | (simp only [List.length_drop, List.length_take]; rfl)) ?_
               with_reducible refine (spec_SlopeDistance.calls k3 ((rd_T25 t178 x10_3).f0) ((rd_T25 t178 x10_3).f1) a1_0 a1_1 t197 _ A52.out).mono ?_
               rintro e w58 ⟨rfl, hb⟩
               have HS2_ := (hb.cell (World.block_lt_of_cell? _ _ (hHeld.2.2.1))).trans (hHeld.2.2.1)
               have HS3_ := (hb.cell (World.block_lt_of_cell? _ _ (hHeld.2.2.2))).trans (hHeld.2.2.2)
               refine ⟨_, rfl, ?_⟩
               have n0_ := Az.mk (Kd.R_below (by (with_reducible repeat (first | apply Kd.R_alloc | apply Kd.R_drewN | apply Kd.R_drew)); exact HO_5.out) hb)
               have n1_ := Az.mk (Kd.R_below (by (with_reducible repeat (first | apply Kd.R_alloc | apply Kd.R_drewN | apply Kd.R_drew)); exact HO_6.out) hb)
               have n2_ := Az.mk (bkB (g := gb168) (o := .cells #[.int .i64 a0_0, .int .i64 a0_1] 25 (0, 0)) (by (with_reducible repeat (first | refine bkN ?_ _ | refine bkD ?_ | refine bkA ?_ _)); exact BK168.out) hb)
               have n3_ := Az.mk (bkB (g := gb169) (o := .cells #[.int .i64 a1_0, .int .i64 a1_1] 25 (0, 0)) (by (with_reducible repeat (first | refine bkN ?_ _ | refine bkD ?_ | refine bkA ?_ _)); exact BK169.out) hb)
               have n4_ := Az.mk (bkB (g := gb183) (o := .cells #[.int .i64 ((rd_T25 x5_2 (ji26)).f0), .int .i64 ((rd_T25 x5_2 (ji26)).f1)] 25 (0, 0)) (by (with_reducible repeat (first | refine bkN ?_ _ | refine bkD ?_ | refine bkA ?_ _)); exact BK183.out) hb)
               have n5_ := Az.mk (bkB (g := gb185) (o := .cells #[.int .i64 x186000_3, .int .i64 x186001_3] 25 (0, 0)) (by (with_reducible repeat (first | refine bkN ?_ _ | refine bkD ?_ | refine bkA ?_ _)); exact BK185.out) hb)
               have n6_ := Az.mk (bwT (by repeat (first | (with_reducible first | exact HB.out | apply bwA | apply pbN | apply bwD | refine bwS ?_ GE168.out | refine bwS ?_ GE169.out | refine bwS ?_ GE183.out | refine bwS ?_ GE185.out) | exact HB.out)) hb)
               clear HO_5
               clear HO_6
               clear BK168
               clear BK169
               clear BK183
               clear BK185
               clear HB
               have HO_5 := n0_
               have HO_6 := n1_
               have BK168 := n2_
               have BK169 := n3_
               have BK183 := n4_
               have BK185 := n5_
               have HB := n6_
               clear n0_ n1_ n2_ n3_ n4_ n5_ n6_
               (try clear hb)
               (try clear hb2)
               (try clear hk)
               (try clear hi)
               refine hK.out _ _ ⟨(bkC BK169.out 0).trans rfl, (bkC BK169.out 1).trans rfl, HS2_, HS3_⟩ (fun hHeld => ?_)
               clear hK K
               refine norm_ (a' := ?_) ?_ ?_
               rotate_left
               ·show Act.put _ (some 69) _ = _
                simp only [Act.put, List.setIfInBounds_toArray, List.set_cons_zero, List.set_cons_succ, i64_w, i32_w]
                rfl
               refine pure_ (i := 6) (N := some 8) (v := ?_) (a' := ?_) #[true, true, true, true, true, true, true] rfl rfl (by kernel_rfl) (fun _ _ _ h => h) (Or.inl ⟨by rfl, ?_⟩) ?_ ?_
               rotate_left
               ·intro w'
                go_simp
                with_reducible rfl
               rotate_left
               ·simp only [Act.put, List.setIfInBounds_toArray, List.set_cons_zero, List.set_cons_succ, i64_w, i32_w]
                rfl
               refine done_ (by kernel_rfl) ?_
               have p198 : 0 ≤ (x10_3 : Int) := of_decide_eq_true (by first | (with_reducible assumption) | assumption)
               have q198 : x10_3 < (t178.length : Int) := of_decide_eq_true (by first | (with_reducible assumption) | assumption)
               obtain ⟨ad198, e198, hx198_0, hx198_1⟩ := at_T25 (Kd.R_reads' HO_6.out).2.2 x10_3 p198 q198
               obtain rfl : ad192 = ad198 := (by injection e198)
               replace p198 := eq_true p198
               replace q198 := eq_true q198
               have hnb59 := NB185_168.out
               have hnc59 := NB168_185.out
               have hnb60 := NB185_169.out
               have hnc60 := NB169_185.out
               have hnb61 := NB185_183.out
               have hnc61 := NB183_185.out
               have hcz62_0 : w58.cell? ⟨gb185, 0, none⟩ = some (.int .i64 x186000_3) := (bkC BK185.out 0).trans rfl
               have hcz62_1 : w58.cell? ⟨gb185, 1, none⟩ = some (.int .i64 x186001_3) := (bkC BK185.out 1).trans rfl
               have hfz62_0 := bkF BK185.out 0
               have hfz62_1 := bkF BK185.out 1
               try go_wp2
               go_roundg k3
               case measure => have := HJ2.out; have := HK2.out; have := HK3.out; omega
               case rel => exact ⟨(t197), (wrap64 (x10_3 + 1)), ((rd_T25 t178 x10_3).f0), ((rd_T25 t178 x10_3).f1), (by first | rfl | (simp; done) | (simp [*]; done)), (by first | rfl | (simp; done) | (simp [*]; done)), H', ⟨by have := HJ2.out; have := HK2.out; have := HK3.out; omega⟩, ⟨by (with_reducible repeat (first | apply Kd.R_alloc | apply Kd.R_drewN | apply Kd.R_drew)); exact Kd.R_mono (Kd.R_far (p := ⟨gb185, 1, none⟩) (Kd.R_far (p := ⟨gb185, 0, none⟩) (Kd.R_mono HO_5.out (fun k_ hk => (⟨hk, hk.2.2.2.2⟩ : _ ∧ k_ ≠ gb185))) (fun _ hk => hk.2) (.int .i64 ((rd_T25 t178 x10_3).f0))) (fun _ hk => hk.2) (.int .i64 ((rd_T25 t178 x10_3).f1))) (fun _ hk => ⟨hk.1.1, ⟨hk.1.2.1, ⟨hk.1.2.2.1, ⟨hk.1.2.2.2.1, hk.1.2.2.2.2⟩⟩⟩⟩)⟩, ⟨by (with_reducible repeat (first | apply Kd.R_alloc | apply Kd.R_drewN | apply Kd.R_drew)); exact Kd.R_mono (Kd.R_far (p := ⟨gb185, 1, none⟩) (Kd.R_far (p := ⟨gb185, 0, none⟩) (Kd.R_mono HO_6.out (fun k_ hk => (⟨hk, hk.2.2.2.2⟩ : _ ∧ k_ ≠ gb185))) (fun _ hk => hk.2) (.int .i64 ((rd_T25 t178 x10_3).f0))) (fun _ hk => hk.2) (.int .i64 ((rd_T25 t178 x10_3).f1))) (fun _ hk => ⟨hk.1.1, ⟨hk.1.2.1, ⟨hk.1.2.2.1, ⟨hk.1.2.2.2.1, hk.1.2.2.2.2⟩⟩⟩⟩)⟩, ⟨by (with_reducible repeat (first | refine bkN ?_ _ | refine bkD ?_ | refine bkA ?_ _)); refine bkf ?_ NB168_185.out _; (with_reducible repeat (first | refine bkN ?_ _ | refine bkD ?_ | refine bkA ?_ _)); refine bkf ?_ NB168_185.out _; (with_reducible repeat (first | refine bkN ?_ _ | refine bkD ?_ | refine bkA ?_ _)); exact BK168.out⟩, ⟨by (with_reducible repeat (first | refine bkN ?_ _ | refine bkD ?_ | refine bkA ?_ _)); refine bkf ?_ NB169_185.out _; (with_reducible repeat (first | refine bkN ?_ _ | refine bkD ?_ | refine bkA ?_ _)); refine bkf ?_ NB169_185.out _; (with_reducible repeat (first | refine bkN ?_ _ | refine bkD ?_ | refine bkA ?_ _)); exact BK169.out⟩, ⟨by (with_reducible repeat (first | refine bkN ?_ _ | refine bkD ?_ | refine bkA ?_ _)); refine bkf ?_ NB183_185.out _; (with_reducible repeat (first | refine bkN ?_ _ | refine bkD ?_ | refine bkA ?_ _)); refine bkf ?_ NB183_185.out _; (with_reducible repeat (first | refine bkN ?_ _ | refine bkD ?_ | refine bkA ?_ _)); exact BK183.out⟩, ⟨by (with_reducible repeat (first | refine bkN ?_ _ | refine bkD ?_ | refine bkA ?_ _)); refine bkp (cs := #[.int .i64 ((rd_T25 t178 x10_3).f0), .int .i64 x186001_3]) ?_ 1 _ rfl; (with_reducible repeat (first | refine bkN ?_ _ | refine bkD ?_ | refine bkA ?_ _)); refine bkp (cs := #[.int .i64 x186000_3, .int .i64 x186001_3]) ?_ 0 _ rfl; (with_reducible repeat (first | refine bkN ?_ _ | refine bkD ?_ | refine bkA ?_ _)); exact BK185.out⟩, ⟨by repeat (first | (with_reducible first | exact HB.out | apply bwA | apply pbN | apply bwD | refine bwS ?_ GE168.out | refine bwS ?_ GE169.out | refine bwS ?_ GE183.out | refine bwS ?_ GE185.out) | exact HB.out)⟩⟩
              ·rw [if_neg c51] at H
               have c51b0 : decide (t195 < x8_3) = false := decide_eq_false c51
               clear c51
               have H' := Az.mk H
               clear H
               obtain ⟨Ao63, co63, eo63⟩ := Kd.R_slice HO_6.out
               subst eo63
               try go_wp2
               have n0_ := Az.mk (Kd.R_drew HO_5.out)
               have n1_ := Az.mk (Kd.R_drew HO_6.out)
               have n2_ := Az.mk (bkD BK168.out)
               have n3_ := Az.mk (bkD BK169.out)
               have n4_ := Az.mk (bkD BK183.out)
               have n5_ := Az.mk (bkD BK185.out)
               have n6_ := Az.mk (bwD HB.out)
               clear HO_5
               clear HO_6
               clear BK168
               clear BK169
               clear BK183
               clear BK185
               clear HB
               have HO_5 := n0_
               have HO_6 := n1_
               have BK168 := n2_
               have BK169 := n3_
               have BK183 := n4_
               have BK185 := n5_
               have HB := n6_
               clear n0_ n1_ n2_ n3_ n4_ n5_ n6_
               have p192 : 0 ≤ (x10_3 : Int) := of_decide_eq_true (by first | (with_reducible assumption) | assumption)
               have q192 : x10_3 < (t178.length : Int) := of_decide_eq_true (by first | (with_reducible assumption) | assumption)
               obtain ⟨ad192, e192, hx192_0, hx192_1⟩ := at_T25 (Kd.R_reads' HO_6.out).2.2 x10_3 p192 q192
               cases e192
               replace p192 := eq_true p192
               replace q192 := eq_true q192
               have p194 : 0 ≤ (x10_3 : Int) := of_decide_eq_true (by first | (with_reducible assumption) | assumption)
               have q194 : x10_3 < (t178.length : Int) := of_decide_eq_true (by first | (with_reducible assumption) | assumption)
               obtain ⟨ad194, e194, hx194_0, hx194_1⟩ := at_T25 (Kd.R_reads' HO_6.out).2.2 x10_3 p194 q194
               obtain rfl : ad192 = ad194 := (by injection e194)
               replace p194 := eq_true p194
               replace q194 := eq_true q194
               refine start_ (n := 17) (S := fun w' => w'.cell? ⟨gb183, 0, none⟩ = some (.int .i64 ((rd_T25 x5_2 (ji26)).f0)) ∧ w'.cell? ⟨gb183, 1, none⟩ = some (.int .i64 ((rd_T25 x5_2 (ji26)).f1)) ∧ w'.cell? ⟨gb169, 0, none⟩ = some (.int .i64 a1_0) ∧ w'.cell? ⟨gb169, 1, none⟩ = some (.int .i64 a1_1) ∧ w'.cell? (ad192.add ((x10_3).toNat * 2)) = some (.int .i64 ((rd_T25 t178 x10_3).f0)) ∧ w'.cell? ⟨(ad192.add ((x10_3).toNat * 2)).block, (ad192.add ((x10_3).toNat * 2)).off + 1, none⟩ = some (.int .i64 ((rd_T25 t178 x10_3).f1)) ∧ w'.cell? (ad192.add ((x10_3).toNat * 2)) = some (.int .i64 ((rd_T25 t178 x10_3).f0)) ∧ w'.cell? ⟨(ad192.add ((x10_3).toNat * 2)).block, (ad192.add ((x10_3).toNat * 2)).off + 1, none⟩ = some (.int .i64 ((rd_T25 t178 x10_3).f1))) (ds := []) #[false, false, false, false, false, false, false, false, false, false, false, false, false, false, false, false, false] (by kernel_rfl) rfl rfl ⟨(bkC BK183.out 0).trans rfl, (bkC BK183.out 1).trans rfl, (bkC BK169.out 0).trans rfl, (bkC BK169.out 1).trans rfl, hx192_0, hx192_1, hx194_0, hx194_1⟩ (fun hHeld => ?_); refine with_tabW spec_StepsBetween.tab12 spec_StepsBetween.bits12 (fun HT_ HW_ => ?_)
               generalize wr.drew = w64 at HO_5 HO_6 BK168 BK169 BK183 BK185 HB hx192_0 hx192_1 hx194_0 hx194_1 hHeld ⊢
               refine pure_ (i := 1) (N := some 48) (v := ?_) (a' := ?_) #[false, true, false, false, false, false, false, false, false, false, false, false, false, false, false, false, false] rfl rfl (any_of HT_.out (by kernel_rfl)) (fun _ _ _ h => h) (Or.inl ⟨by rfl, ?_⟩) ?_ ?_
               rotate_left
               ·intro w'
                go_simp
                with_reducible rfl
               rotate_left
               ·simp only [Act.put, List.setIfInBounds_toArray, List.set_cons_zero, List.set_cons_succ, i64_w, i32_w]
                rfl
               refine pure_ (i := 2) (N := some 49) (v := ?_) (a' := ?_) #[false, true, true, false, false, false, false, false, false, false, false, false, false, false, false, false, false] rfl rfl (any_of HT_.out (by kernel_rfl)) (fun _ _ _ h => h) (Or.inl ⟨by rfl, ?_⟩) ?_ ?_
               rotate_left
               ·intro w'
                go_simp
                with_reducible rfl
               rotate_left
               ·simp only [Act.put, List.setIfInBounds_toArray, List.set_cons_zero, List.set_cons_succ, i64_w, i32_w]
                rfl
               refine pure_ (i := 3) (N := some 50) (v := ?_) (a' := ?_) #[false, true, true, true, false, false, false, false, false, false, false, false, false, false, false, false, false] rfl rfl (any_of HT_.out (by kernel_rfl)) (fun _ _ _ h => h) (Or.inl ⟨by rfl, ?_⟩) ?_ ?_
               rotate_left
               ·intro w'
                go_simp
                with_reducible rfl
               rotate_left
               ·simp only [Act.put, List.setIfInBounds_toArray, List.set_cons_zero, List.set_cons_succ, i64_w, i32_w]
                rfl
               refine take_ (i := 0) (N := some 47) (v := ?_) (a' := ?_) #[true, true, true, true, false, false, false, false, false, false, false, false, false, false, false, false, false] rfl rfl (take_ofW HT_.out HW_.out (by kernel_rfl)) (fun _ _ _ h => h) (Or.inl ⟨by rfl, ?_⟩) hHeld ?_ ?_
               rotate_left
               ·rintro w' ⟨s0, s1, s2, s3, s4, s5, s6, s7⟩
                go_simp
                with_reducible rfl
               rotate_left
               ·simp only [Act.put, List.setIfInBounds_toArray, List.set_cons_zero, List.set_cons_succ, i64_w, i32_w]
                rfl
               refine take_ (i := 4) (N := some 51) (v := ?_) (a' := ?_) #[true, true, true, true, true, false, false, false, false, false, false, false, false, false, false, false, false] rfl rfl (take_ofW HT_.out HW_.out (by kernel_rfl)) (fun _ _ _ h => h) (Or.inl ⟨by rfl, ?_⟩) hHeld ?_ ?_
               rotate_left
               ·rintro w' ⟨s0, s1, s2, s3, s4, s5, s6, s7⟩
                go_simp
                with_reducible rfl
               rotate_left
               ·simp only [Act.put, List.setIfInBounds_toArray, List.set_cons_zero, List.set_cons_succ, i64_w, i32_w]
                rfl
               refine one_ (i := 5) (N := some 52) #[true, true, true, true, true, true, false, false, false, false, false, false, false, false, false, false, false] rfl rfl (one_of HT_.out (by kernel_rfl)) (by decide) (fun K hK => ?_)
               refine goes_ Try.func20 (by kernel_rfl) rfl #[.agg #[.int .i64 ((rd_T25 x5_2 (ji26)).f0), .int .i64 ((rd_T25 x5_2 (ji26)).f1)], .agg #[.int .i64 ((rd_T25 t178 x10_3).f0), .int .i64 ((rd_T25 t178 x10_3).f1)]] (by rfl) rfl rfl (by (try simp only [List.map_toArray, List.map_cons, List.map_nil]); first | done | (simp only [hji26]; rfl) | rfl | (simp only [List.length_drop, List.length_take]; rfl)) ?_
               with_reducible refine (spec_CrossNumber.calls k3 ((rd_T25 x5_2 (ji26)).f0) ((rd_T25 x5_2 (ji26)).f1) ((rd_T25 t178 x10_3).f0) ((rd_T25 t178 x10_3).f1) t193 _ A48.out).mono ?_
               rintro e w65 ⟨rfl, hb⟩
               have HS4_ := (hb.cell (World.block_lt_of_cell? _ _ (hHeld.2.2.2.2.1))).trans (hHeld.2.2.2.2.1)
               have HS5_ := (hb.cell (World.block_lt_of_cell? _ _ (hHeld.2.2.2.2.2.1))).trans (hHeld.2.2.2.2.2.1)
               have HS6_ := (hb.cell (World.block_lt_of_cell? _ _ (hHeld.2.2.2.2.2.2.1))).trans (hHeld.2.2.2.2.2.2.1)
               have HS7_ := (hb.cell (World.block_lt_of_cell? _ _ (hHeld.2.2.2.2.2.2.2))).trans (hHeld.2.2.2.2.2.2.2)
               refine ⟨_, rfl, ?_⟩
               have n0_ := Az.mk (Kd.R_below (by (with_reducible repeat (first | apply Kd.R_alloc | apply Kd.R_drewN | apply Kd.R_drew)); exact HO_5.out) hb)
               have n1_ := Az.mk (Kd.R_below (by (with_reducible repeat (first | apply Kd.R_alloc | apply Kd.R_drewN | apply Kd.R_drew)); exact HO_6.out) hb)
               have n2_ := Az.mk (bkB (g := gb168) (o := .cells #[.int .i64 a0_0, .int .i64 a0_1] 25 (0, 0)) (by (with_reducible repeat (first | refine bkN ?_ _ | refine bkD ?_ | refine bkA ?_ _)); exact BK168.out) hb)
               have n3_ := Az.mk (bkB (g := gb169) (o := .cells #[.int .i64 a1_0, .int .i64 a1_1] 25 (0, 0)) (by (with_reducible repeat (first | refine bkN ?_ _ | refine bkD ?_ | refine bkA ?_ _)); exact BK169.out) hb)
               have n4_ := Az.mk (bkB (g := gb183) (o := .cells #[.int .i64 ((rd_T25 x5_2 (ji26)).f0), .int .i64 ((rd_T25 x5_2 (ji26)).f1)] 25 (0, 0)) (by (with_reducible repeat (first | refine bkN ?_ _ | refine bkD ?_ | refine bkA ?_ _)); exact BK183.out) hb)
               have n5_ := Az.mk (bkB (g := gb185) (o := .cells #[.int .i64 x186000_3, .int .i64 x186001_3] 25 (0, 0)) (by (with_reducible repeat (first | refine bkN ?_ _ | refine bkD ?_ | refine bkA ?_ _)); exact BK185.out) hb)
               have n6_ := Az.mk (bwT (by repeat (first | (with_reducible first | exact HB.out | apply bwA | apply pbN | apply bwD | refine bwS ?_ GE168.out | refine bwS ?_ GE169.out | refine bwS ?_ GE183.out | refine bwS ?_ GE185.out) | exact HB.out)) hb)
               clear HO_5
               clear HO_6
               clear BK168
               clear BK169
               clear BK183
               clear BK185
               clear HB
               have HO_5 := n0_
               have HO_6 := n1_
               have BK168 := n2_
               have BK169 := n3_
               have BK183 := n4_
               have BK185 := n5_
               have HB := n6_
               clear n0_ n1_ n2_ n3_ n4_ n5_ n6_
               (try clear hb)
               (try clear hb2)
               (try clear hk)
               (try clear hi)
               refine hK.out _ _ ⟨(bkC BK183.out 0).trans rfl, (bkC BK183.out 1).trans rfl, (bkC BK169.out 0).trans rfl, (bkC BK169.out 1).trans rfl, HS4_, HS5_, HS6_, HS7_⟩ (fun hHeld => ?_)
               clear hK K
               refine norm_ (a' := ?_) ?_ ?_
               rotate_left
               ·show Act.put _ (some 52) _ = _
                simp only [Act.put, List.setIfInBounds_toArray, List.set_cons_zero, List.set_cons_succ, i64_w, i32_w]
                rfl
               refine pure_ (i := 6) (N := some 53) (v := ?_) (a' := ?_) #[true, true, true, true, true, true, true, false, false, false, false, false, false, false, false, false, false] rfl rfl (any_of HT_.out (by kernel_rfl)) (fun _ _ _ h => h) (Or.inl ⟨by rfl, ?_⟩) ?_ ?_
               rotate_left
               ·intro w'
                go_simp
                with_reducible rfl
               rotate_left
               ·simp only [Act.put, List.setIfInBounds_toArray, List.set_cons_zero, List.set_cons_succ, i64_w, i32_w]
                rfl
               refine pure_ (i := 7) (N := some 54) (v := ?_) (a' := ?_) #[true, true, true, true, true, true, true, true, false, false, false, false, false, false, false, false, false] rfl rfl (any_of HT_.out (by kernel_rfl)) (fun _ _ _ h => h) (Or.inl ⟨by rfl, ?_⟩) ?_ ?_
               rotate_left
               ·intro w'
                go_simp
                with_reducible rfl
               rotate_left
               ·simp only [Act.put, List.setIfInBounds_toArray, List.set_cons_zero, List.set_cons_succ, i64_w, i32_w]
                rfl
               refine pure_ (i := 8) (N := some 55) (v := ?_) (a' := ?_) #[true, true, true, true, true, true, true, true, true, false, false, false, false, false, false, false, false] rfl rfl (any_of HT_.out (by kernel_rfl)) (fun _ _ _ h => h) (Or.inl ⟨by rfl, ?_⟩) ?_ ?_
               rotate_left
               ·intro w'
                go_simp
                with_reducible rfl
               rotate_left
               ·simp only [Act.put, List.setIfInBounds_toArray, List.set_cons_zero, List.set_cons_succ, i64_w, i32_w]
                rfl
               refine pure_ (i := 9) (N := some 56) (v := ?_) (a' := ?_) #[true, true, true, true, true, true, true, true, true, true, false, false, false, false, false, false, false] rfl rfl (any_of HT_.out (by kernel_rfl)) (fun _ _ _ h => h) (Or.inl ⟨by rfl, ?_⟩) ?_ ?_
               rotate_left
               ·intro w'
                go_simp
                with_reducible rfl
               rotate_left
               ·simp only [Act.put, List.setIfInBounds_toArray, List.set_cons_zero, List.set_cons_succ, i64_w, i32_w]
                rfl
               refine pure_ (i := 10) (N := some 57) (v := ?_) (a' := ?_) #[true, true, true, true, true, true, true, true, true, true, true, false, false, false, false, false, false] rfl rfl (any_of HT_.out (by kernel_rfl)) (fun _ _ _ h => h) (Or.inl ⟨by rfl, ?_⟩) ?_ ?_
               rotate_left
               ·intro w'
                go_simp
                with_reducible rfl
               rotate_left
               ·simp only [Act.put, List.setIfInBounds_toArray, List.set_cons_zero, List.set_cons_succ, i64_w, i32_w]
                rfl
               refine pure_ (i := 14) (N := some 61) (v := ?_) (a' := ?_) #[true, true, true, true, true, true, true, true, true, true, true, false, false, false, true, false, false] rfl rfl (any_of HT_.out (by kernel_rfl)) (fun _ _ _ h => h) (Or.inl ⟨by rfl, ?_⟩) ?_ ?_
               rotate_left
               ·intro w'
                go_simp
                with_reducible rfl
               rotate_left
               ·simp only [Act.put, List.setIfInBounds_toArray, List.set_cons_zero, List.set_cons_succ, i64_w, i32_w]
                rfl
               refine take_ (i := 11) (N := some 58) (v := ?_) (a' := ?_) #[true, true, true, true, true, true, true, true, true, true, true, true, false, false, true, false, false] rfl rfl (take_ofW HT_.out HW_.out (by kernel_rfl)) (fun _ _ _ h => h) (Or.inl ⟨by rfl, ?_⟩) hHeld ?_ ?_
               rotate_left
               ·rintro w' ⟨s0, s1, s2, s3, s4, s5, s6, s7⟩
                go_simp
                with_reducible rfl
               rotate_left
               ·simp only [Act.put, List.setIfInBounds_toArray, List.set_cons_zero, List.set_cons_succ, i64_w, i32_w]
                rfl
               refine take_ (i := 12) (N := some 59) (v := ?_) (a' := ?_) #[true, true, true, true, true, true, true, true, true, true, true, true, true, false, true, false, false] rfl rfl (take_ofW HT_.out HW_.out (by kernel_rfl)) (fun _ _ _ h => h) (Or.inl ⟨by rfl, ?_⟩) hHeld ?_ ?_
               rotate_left
               ·rintro w' ⟨s0, s1, s2, s3, s4, s5, s6, s7⟩
                go_simp
                with_reducible rfl
               rotate_left
               ·simp only [Act.put, List.setIfInBounds_toArray, List.set_cons_zero, List.set_cons_succ, i64_w, i32_w]
                rfl
               refine one_ (i := 13) (N := some 60) #[true, true, true, true, true, true, true, true, true, true, true, true, true, true, true, false, false] rfl rfl (one_of HT_.out (by kernel_rfl)) (by decide) (fun K hK => ?_)
               refine goes_ Try.func5 (by kernel_rfl) rfl #[.agg #[.int .i64 ((rd_T25 t178 x10_3).f0), .int .i64 ((rd_T25 t178 x10_3).f1)], .agg #[.int .i64 a1_0, .int .i64 a1_1]] (by rfl) rfl rfl (by (try simp only [List.map_toArray, List.map_cons, List.map_nil]); first | done | rfl | (simp only [List.length_drop, List.length_take]; rfl)) ?_
               with_reducible refine (spec_SlopeDistance.calls k3 ((rd_T25 t178 x10_3).f0) ((rd_T25 t178 x10_3).f1) a1_0 a1_1 t195 _ A50.out).mono ?_
               rintro e w66 ⟨rfl, hb⟩
               have HS4_ := (hb.cell (World.block_lt_of_cell? _ _ (hHeld.2.2.2.2.1))).trans (hHeld.2.2.2.2.1)
               have HS5_ := (hb.cell (World.block_lt_of_cell? _ _ (hHeld.2.2.2.2.2.1))).trans (hHeld.2.2.2.2.2.1)
               have HS6_ := (hb.cell (World.block_lt_of_cell? _ _ (hHeld.2.2.2.2.2.2.1))).trans (hHeld.2.2.2.2.2.2.1)
               have HS7_ := (hb.cell (World.block_lt_of_cell? _ _ (hHeld.2.2.2.2.2.2.2))).trans (hHeld.2.2.2.2.2.2.2)
               refine ⟨_, rfl, ?_⟩
               have n0_ := Az.mk (Kd.R_below (by (with_reducible repeat (first | apply Kd.R_alloc | apply Kd.R_drewN | apply Kd.R_drew)); exact HO_5.out) hb)
               have n1_ := Az.mk (Kd.R_below (by (with_reducible repeat (first | apply Kd.R_alloc | apply Kd.R_drewN | apply Kd.R_drew)); exact HO_6.out) hb)
               have n2_ := Az.mk (bkB (g := gb168) (o := .cells #[.int .i64 a0_0, .int .i64 a0_1] 25 (0, 0)) (by (with_reducible repeat (first | refine bkN ?_ _ | refine bkD ?_ | refine bkA ?_ _)); exact BK168.out) hb)
               have n3_ := Az.mk (bkB (g := gb169) (o := .cells #[.int .i64 a1_0, .int .i64 a1_1] 25 (0, 0)) (by (with_reducible repeat (first | refine bkN ?_ _ | refine bkD ?_ | refine bkA ?_ _)); exact BK169.out) hb)
               have n4_ := Az.mk (bkB (g := gb183) (o := .cells #[.int .i64 ((rd_T25 x5_2 (ji26)).f0), .int .i64 ((rd_T25 x5_2 (ji26)).f1)] 25 (0, 0)) (by (with_reducible repeat (first | refine bkN ?_ _ | refine bkD ?_ | refine bkA ?_ _)); exact BK183.out) hb)
               have n5_ := Az.mk (bkB (g := gb185) (o := .cells #[.int .i64 x186000_3, .int .i64 x186001_3] 25 (0, 0)) (by (with_reducible repeat (first | refine bkN ?_ _ | refine bkD ?_ | refine bkA ?_ _)); exact BK185.out) hb)
               have n6_ := Az.mk (bwT (by repeat (first | (with_reducible first | exact HB.out | apply bwA | apply pbN | apply bwD | refine bwS ?_ GE168.out | refine bwS ?_ GE169.out | refine bwS ?_ GE183.out | refine bwS ?_ GE185.out) | exact HB.out)) hb)
               clear HO_5
               clear HO_6
               clear BK168
               clear BK169
               clear BK183
               clear BK185
               clear HB
               have HO_5 := n0_
               have HO_6 := n1_
               have BK168 := n2_
               have BK169 := n3_
               have BK183 := n4_
               have BK185 := n5_
               have HB := n6_
               clear n0_ n1_ n2_ n3_ n4_ n5_ n6_
               (try clear hb)
               (try clear hb2)
               (try clear hk)
               (try clear hi)
               refine hK.out _ _ ⟨(bkC BK183.out 0).trans rfl, (bkC BK183.out 1).trans rfl, (bkC BK169.out 0).trans rfl, (bkC BK169.out 1).trans rfl, HS4_, HS5_, HS6_, HS7_⟩ (fun hHeld => ?_)
               clear hK K
               refine norm_ (a' := ?_) ?_ ?_
               rotate_left
               ·show Act.put _ (some 60) _ = _
                simp only [Act.put, List.setIfInBounds_toArray, List.set_cons_zero, List.set_cons_succ, i64_w, i32_w]
                rfl
               refine pure_ (i := 15) (N := some 62) (v := ?_) (a' := ?_) #[true, true, true, true, true, true, true, true, true, true, true, true, true, true, true, true, false] rfl rfl (any_of HT_.out (by kernel_rfl)) (fun _ _ _ h => h) (Or.inl ⟨by rfl, ?_⟩) ?_ ?_
               rotate_left
               ·intro w'
                go_simp
                with_reducible rfl
               rotate_left
               ·simp only [Act.put, List.setIfInBounds_toArray, List.set_cons_zero, List.set_cons_succ, i64_w, i32_w]
                rfl
               refine pure_ (i := 16) (N := some 63) (v := ?_) (a' := ?_) #[true, true, true, true, true, true, true, true, true, true, true, true, true, true, true, true, true] rfl rfl (any_of HT_.out (by kernel_rfl)) (fun _ _ _ h => h) (Or.inl ⟨by rfl, ?_⟩) ?_ ?_
               rotate_left
               ·intro w'
                go_simp
                with_reducible rfl
               rotate_left
               ·simp only [Act.put, List.setIfInBounds_toArray, List.set_cons_zero, List.set_cons_succ, i64_w, i32_w]
                rfl
               refine done_ (done_of HT_.out (by kernel_rfl)) ?_
               try go_wp2
               go_roundg k3
               case measure => have := HJ2.out; have := HK2.out; have := HK3.out; omega
               case rel => exact ⟨(x8_3), (wrap64 (x10_3 + 1)), (x186000_3), (x186001_3), (by first | rfl | (simp; done) | (simp [*]; done)), (by first | rfl | (simp; done) | (simp [*]; done)), H', ⟨by have := HJ2.out; have := HK2.out; have := HK3.out; omega⟩, ⟨by (with_reducible repeat (first | apply Kd.R_alloc | apply Kd.R_drewN | apply Kd.R_drew)); exact HO_5.out⟩, ⟨by (with_reducible repeat (first | apply Kd.R_alloc | apply Kd.R_drewN | apply Kd.R_drew)); exact HO_6.out⟩, ⟨by (with_reducible repeat (first | refine bkN ?_ _ | refine bkD ?_ | refine bkA ?_ _)); exact BK168.out⟩, ⟨by (with_reducible repeat (first | refine bkN ?_ _ | refine bkD ?_ | refine bkA ?_ _)); exact BK169.out⟩, ⟨by (with_reducible repeat (first | refine bkN ?_ _ | refine bkD ?_ | refine bkA ?_ _)); exact BK183.out⟩, ⟨by (with_reducible repeat (first | refine bkN ?_ _ | refine bkD ?_ | refine bkA ?_ _)); exact BK185.out⟩, ⟨by repeat (first | (with_reducible first | exact HB.out | apply bwA | apply pbN | apply bwD | refine bwS ?_ GE168.out | refine bwS ?_ GE169.out | refine bwS ?_ GE183.out | refine bwS ?_ GE185.out) | exact HB.out)⟩⟩
             ·rw [if_neg c49] at H
              have c49b0 : (t193 == 1) = false := beq_eq_false_iff_ne.mpr c49
              have c49b1 : (t193 != 1) = true := bne_iff_ne.mpr c49
              have H' := Az.mk H
              clear H
              obtain ⟨Ao67, co67, eo67⟩ := Kd.R_slice HO_6.out
              subst eo67
              try go_wp2
              have n0_ := Az.mk (Kd.R_drew HO_5.out)
              have n1_ := Az.mk (Kd.R_drew HO_6.out)
              have n2_ := Az.mk (bkD BK168.out)
              have n3_ := Az.mk (bkD BK169.out)
              have n4_ := Az.mk (bkD BK183.out)
              have n5_ := Az.mk (bkD BK185.out)
              have n6_ := Az.mk (bwD HB.out)
              clear HO_5
              clear HO_6
              clear BK168
              clear BK169
              clear BK183
              clear BK185
              clear HB
              have HO_5 := n0_
              have HO_6 := n1_
              have BK168 := n2_
              have BK169 := n3_
              have BK183 := n4_
              have BK185 := n5_
              have HB := n6_
              clear n0_ n1_ n2_ n3_ n4_ n5_ n6_
              have p192 : 0 ≤ (x10_3 : Int) := of_decide_eq_true (by first | (with_reducible assumption) | assumption)
              have q192 : x10_3 < (t178.length : Int) := of_decide_eq_true (by first | (with_reducible assumption) | assumption)
              obtain ⟨ad192, e192, hx192_0, hx192_1⟩ := at_T25 (Kd.R_reads' HO_6.out).2.2 x10_3 p192 q192
              cases e192
              replace p192 := eq_true p192
              replace q192 := eq_true q192
              refine start_ (n := 17) (S := fun w' => w'.cell? ⟨gb183, 0, none⟩ = some (.int .i64 ((rd_T25 x5_2 (ji26)).f0)) ∧ w'.cell? ⟨gb183, 1, none⟩ = some (.int .i64 ((rd_T25 x5_2 (ji26)).f1)) ∧ w'.cell? (ad192.add ((x10_3).toNat * 2)) = some (.int .i64 ((rd_T25 t178 x10_3).f0)) ∧ w'.cell? ⟨(ad192.add ((x10_3).toNat * 2)).block, (ad192.add ((x10_3).toNat * 2)).off + 1, none⟩ = some (.int .i64 ((rd_T25 t178 x10_3).f1))) (ds := []) #[false, false, false, false, false, false, false, false, false, false, false, false, false, false, false, false, false] (by kernel_rfl) rfl rfl ⟨(bkC BK183.out 0).trans rfl, (bkC BK183.out 1).trans rfl, hx192_0, hx192_1⟩ (fun hHeld => ?_); refine with_tabW spec_StepsBetween.tab12 spec_StepsBetween.bits12 (fun HT_ HW_ => ?_)
              generalize wr.drew = w68 at HO_5 HO_6 BK168 BK169 BK183 BK185 HB hx192_0 hx192_1 hHeld ⊢
              refine pure_ (i := 1) (N := some 48) (v := ?_) (a' := ?_) #[false, true, false, false, false, false, false, false, false, false, false, false, false, false, false, false, false] rfl rfl (any_of HT_.out (by kernel_rfl)) (fun _ _ _ h => h) (Or.inl ⟨by rfl, ?_⟩) ?_ ?_
              rotate_left
              ·intro w'
               go_simp
               with_reducible rfl
              rotate_left
              ·simp only [Act.put, List.setIfInBounds_toArray, List.set_cons_zero, List.set_cons_succ, i64_w, i32_w]
               rfl
              refine pure_ (i := 2) (N := some 49) (v := ?_) (a' := ?_) #[false, true, true, false, false, false, false, false, false, false, false, false, false, false, false, false, false] rfl rfl (any_of HT_.out (by kernel_rfl)) (fun _ _ _ h => h) (Or.inl ⟨by rfl, ?_⟩) ?_ ?_
              rotate_left
              ·intro w'
               go_simp
               with_reducible rfl
              rotate_left
              ·simp only [Act.put, List.setIfInBounds_toArray, List.set_cons_zero, List.set_cons_succ, i64_w, i32_w]
               rfl
              refine pure_ (i := 3) (N := some 50) (v := ?_) (a' := ?_) #[false, true, true, true, false, false, false, false, false, false, false, false, false, false, false, false, false] rfl rfl (any_of HT_.out (by kernel_rfl)) (fun _ _ _ h => h) (Or.inl ⟨by rfl, ?_⟩) ?_ ?_
              rotate_left
              ·intro w'
               go_simp
               with_reducible rfl
              rotate_left
              ·simp only [Act.put, List.setIfInBounds_toArray, List.set_cons_zero, List.set_cons_succ, i64_w, i32_w]
               rfl
              refine take_ (i := 0) (N := some 47) (v := ?_) (a' := ?_) #[true, true, true, true, false, false, false, false, false, false, false, false, false, false, false, false, false] rfl rfl (take_ofW HT_.out HW_.out (by kernel_rfl)) (fun _ _ _ h => h) (Or.inl ⟨by rfl, ?_⟩) hHeld ?_ ?_
              rotate_left
              ·rintro w' ⟨s0, s1, s2, s3⟩
               go_simp
               with_reducible rfl
              rotate_left
              ·simp only [Act.put, List.setIfInBounds_toArray, List.set_cons_zero, List.set_cons_succ, i64_w, i32_w]
               rfl
              refine take_ (i := 4) (N := some 51) (v := ?_) (a' := ?_) #[true, true, true, true, true, false, false, false, false, false, false, false, false, false, false, false, false] rfl rfl (take_ofW HT_.out HW_.out (by kernel_rfl)) (fun _ _ _ h => h) (Or.inl ⟨by rfl, ?_⟩) hHeld ?_ ?_
              rotate_left
              ·rintro w' ⟨s0, s1, s2, s3⟩
               go_simp
               with_reducible rfl
              rotate_left
              ·simp only [Act.put, List.setIfInBounds_toArray, List.set_cons_zero, List.set_cons_succ, i64_w, i32_w]
               rfl
              refine one_ (i := 5) (N := some 52) #[true, true, true, true, true, true, false, false, false, false, false, false, false, false, false, false, false] rfl rfl (one_of HT_.out (by kernel_rfl)) (by decide) (fun K hK => ?_)
              refine goes_ Try.func20 (by kernel_rfl) rfl #[.agg #[.int .i64 ((rd_T25 x5_2 (ji26)).f0), .int .i64 ((rd_T25 x5_2 (ji26)).f1)], .agg #[.int .i64 ((rd_T25 t178 x10_3).f0), .int .i64 ((rd_T25 t178 x10_3).f1)]] (by rfl) rfl rfl (by (try simp only [List.map_toArray, List.map_cons, List.map_nil]); first | done | (simp only [hji26]; rfl) | rfl | (simp only [List.length_drop, List.length_take]; rfl)) ?_
              with_reducible refine (spec_CrossNumber.calls k3 ((rd_T25 x5_2 (ji26)).f0) ((rd_T25 x5_2 (ji26)).f1) ((rd_T25 t178 x10_3).f0) ((rd_T25 t178 x10_3).f1) t193 _ A48.out).mono ?_
              rintro e w69 ⟨rfl, hb⟩
              have HS2_ := (hb.cell (World.block_lt_of_cell? _ _ (hHeld.2.2.1))).trans (hHeld.2.2.1)
              have HS3_ := (hb.cell (World.block_lt_of_cell? _ _ (hHeld.2.2.2))).trans (hHeld.2.2.2)
              refine ⟨_, rfl, ?_⟩
              have n0_ := Az.mk (Kd.R_below (by (with_reducible repeat (first | apply Kd.R_alloc | apply Kd.R_drewN | apply Kd.R_drew)); exact HO_5.out) hb)
              have n1_ := Az.mk (Kd.R_below (by (with_reducible repeat (first | apply Kd.R_alloc | apply Kd.R_drewN | apply Kd.R_drew)); exact HO_6.out) hb)
              have n2_ := Az.mk (bkB (g := gb168) (o := .cells #[.int .i64 a0_0, .int .i64 a0_1] 25 (0, 0)) (by (with_reducible repeat (first | refine bkN ?_ _ | refine bkD ?_ | refine bkA ?_ _)); exact BK168.out) hb)
              have n3_ := Az.mk (bkB (g := gb169) (o := .cells #[.int .i64 a1_0, .int .i64 a1_1] 25 (0, 0)) (by (with_reducible repeat (first | refine bkN ?_ _ | refine bkD ?_ | refine bkA ?_ _)); exact BK169.out) hb)
              have n4_ := Az.mk (bkB (g := gb183) (o := .cells #[.int .i64 ((rd_T25 x5_2 (ji26)).f0), .int .i64 ((rd_T25 x5_2 (ji26)).f1)] 25 (0, 0)) (by (with_reducible repeat (first | refine bkN ?_ _ | refine bkD ?_ | refine bkA ?_ _)); exact BK183.out) hb)
              have n5_ := Az.mk (bkB (g := gb185) (o := .cells #[.int .i64 x186000_3, .int .i64 x186001_3] 25 (0, 0)) (by (with_reducible repeat (first | refine bkN ?_ _ | refine bkD ?_ | refine bkA ?_ _)); exact BK185.out) hb)
              have n6_ := Az.mk (bwT (by repeat (first | (with_reducible first | exact HB.out | apply bwA | apply pbN | apply bwD | refine bwS ?_ GE168.out | refine bwS ?_ GE169.out | refine bwS ?_ GE183.out | refine bwS ?_ GE185.out) | exact HB.out)) hb)
              clear HO_5
              clear HO_6
              clear BK168
              clear BK169
              clear BK183
              clear BK185
              clear HB
              have HO_5 := n0_
              have HO_6 := n1_
              have BK168 := n2_
              have BK169 := n3_
              have BK183 := n4_
              have BK185 := n5_
              have HB := n6_
              clear n0_ n1_ n2_ n3_ n4_ n5_ n6_
              (try clear hb)
              (try clear hb2)
              (try clear hk)
              (try clear hi)
              refine hK.out _ _ ⟨(bkC BK183.out 0).trans rfl, (bkC BK183.out 1).trans rfl, HS2_, HS3_⟩ (fun hHeld => ?_)
              clear hK K
              refine norm_ (a' := ?_) ?_ ?_
              rotate_left
              ·show Act.put _ (some 52) _ = _
               simp only [Act.put, List.setIfInBounds_toArray, List.set_cons_zero, List.set_cons_succ, i64_w, i32_w]
               rfl
              refine pure_ (i := 6) (N := some 53) (v := ?_) (a' := ?_) #[true, true, true, true, true, true, true, false, false, false, false, false, false, false, false, false, false] rfl rfl (any_of HT_.out (by kernel_rfl)) (fun _ _ _ h => h) (Or.inl ⟨by rfl, ?_⟩) ?_ ?_
              rotate_left
              ·intro w'
               go_simp
               with_reducible rfl
              rotate_left
              ·simp only [Act.put, List.setIfInBounds_toArray, List.set_cons_zero, List.set_cons_succ, i64_w, i32_w]
               rfl
              refine pure_ (i := 7) (N := some 54) (v := ?_) (a' := ?_) #[true, true, true, true, true, true, true, true, false, false, false, false, false, false, false, false, false] rfl rfl (any_of HT_.out (by kernel_rfl)) (fun _ _ _ h => h) (Or.inl ⟨by rfl, ?_⟩) ?_ ?_
              rotate_left
              ·intro w'
               go_simp
               with_reducible rfl
              rotate_left
              ·simp only [Act.put, List.setIfInBounds_toArray, List.set_cons_zero, List.set_cons_succ, i64_w, i32_w]
               rfl
              refine pure_ (i := 8) (N := some 55) (v := undef) (a' := ?_) #[true, true, true, true, true, true, true, true, true, false, false, false, false, false, false, false, false] rfl rfl (any_of HT_.out (by kernel_rfl)) (fun _ _ _ h => h) (Or.inr ⟨by rfl, rfl⟩) ?_ ?_
              rotate_left
              ·simp only [Act.put, List.setIfInBounds_toArray, List.set_cons_zero, List.set_cons_succ, i64_w, i32_w]
               rfl
              refine pure_ (i := 9) (N := some 56) (v := undef) (a' := ?_) #[true, true, true, true, true, true, true, true, true, true, false, false, false, false, false, false, false] rfl rfl (any_of HT_.out (by kernel_rfl)) (fun _ _ _ h => h) (Or.inr ⟨by rfl, rfl⟩) ?_ ?_
              rotate_left
              ·simp only [Act.put, List.setIfInBounds_toArray, List.set_cons_zero, List.set_cons_succ, i64_w, i32_w]
               rfl
              refine pure_ (i := 10) (N := some 57) (v := undef) (a' := ?_) #[true, true, true, true, true, true, true, true, true, true, true, false, false, false, false, false, false] rfl rfl (any_of HT_.out (by kernel_rfl)) (fun _ _ _ h => h) (Or.inr ⟨by rfl, rfl⟩) ?_ ?_
              rotate_left
              ·simp only [Act.put, List.setIfInBounds_toArray, List.set_cons_zero, List.set_cons_succ, i64_w, i32_w]
               rfl
              refine pure_ (i := 11) (N := some 58) (v := undef) (a' := ?_) #[true, true, true, true, true, true, true, true, true, true, true, true, false, false, false, false, false] rfl rfl (any_of HT_.out (by kernel_rfl)) (fun _ _ _ h => h) (Or.inr ⟨by rfl, rfl⟩) ?_ ?_
              rotate_left
              ·simp only [Act.put, List.setIfInBounds_toArray, List.set_cons_zero, List.set_cons_succ, i64_w, i32_w]
               rfl
              refine pure_ (i := 12) (N := some 59) (v := undef) (a' := ?_) #[true, true, true, true, true, true, true, true, true, true, true, true, true, false, false, false, false] rfl rfl (any_of HT_.out (by kernel_rfl)) (fun _ _ _ h => h) (Or.inr ⟨by rfl, rfl⟩) ?_ ?_
              rotate_left
              ·simp only [Act.put, List.setIfInBounds_toArray, List.set_cons_zero, List.set_cons_succ, i64_w, i32_w]
               rfl
              refine pure_ (i := 13) (N := some 60) (v := undef) (a' := ?_) #[true, true, true, true, true, true, true, true, true, true, true, true, true, true, false, false, false] rfl rfl (any_of HT_.out (by kernel_rfl)) (fun _ _ _ h => h) (Or.inr ⟨by rfl, rfl⟩) ?_ ?_
              rotate_left
              ·simp only [Act.put, List.setIfInBounds_toArray, List.set_cons_zero, List.set_cons_succ, i64_w, i32_w]
               rfl
              refine pure_ (i := 14) (N := some 61) (v := undef) (a' := ?_) #[true, true, true, true, true, true, true, true, true, true, true, true, true, true, true, false, false] rfl rfl (any_of HT_.out (by kernel_rfl)) (fun _ _ _ h => h) (Or.inr ⟨by rfl, rfl⟩) ?_ ?_
              rotate_left
              ·simp only [Act.put, List.setIfInBounds_toArray, List.set_cons_zero, List.set_cons_succ, i64_w, i32_w]
               rfl
              refine pure_ (i := 15) (N := some 62) (v := undef) (a' := ?_) #[true, true, true, true, true, true, true, true, true, true, true, true, true, true, true, true, false] rfl rfl (any_of HT_.out (by kernel_rfl)) (fun _ _ _ h => h) (Or.inr ⟨by rfl, rfl⟩) ?_ ?_
              rotate_left
              ·simp only [Act.put, List.setIfInBounds_toArray, List.set_cons_zero, List.set_cons_succ, i64_w, i32_w]
               rfl
              refine pure_ (i := 16) (N := some 63) (v := ?_) (a' := ?_) #[true, true, true, true, true, true, true, true, true, true, true, true, true, true, true, true, true] rfl rfl (any_of HT_.out (by kernel_rfl)) (fun _ _ _ h => h) (Or.inl ⟨by rfl, ?_⟩) ?_ ?_
              rotate_left
              ·intro w'
               go_simp
               with_reducible rfl
              rotate_left
              ·simp only [Act.put, List.setIfInBounds_toArray, List.set_cons_zero, List.set_cons_succ, i64_w, i32_w]
               rfl
              refine done_ (done_of HT_.out (by kernel_rfl)) ?_
              try go_wp2
              go_roundg k3
              case measure => have := HJ2.out; have := HK2.out; have := HK3.out; omega
              case rel => exact ⟨(x8_3), (wrap64 (x10_3 + 1)), (x186000_3), (x186001_3), (by first | rfl | (simp; done) | (simp [*]; done)), (by first | rfl | (simp; done) | (simp [*]; done)), H', ⟨by have := HJ2.out; have := HK2.out; have := HK3.out; omega⟩, ⟨by (with_reducible repeat (first | apply Kd.R_alloc | apply Kd.R_drewN | apply Kd.R_drew)); exact HO_5.out⟩, ⟨by (with_reducible repeat (first | apply Kd.R_alloc | apply Kd.R_drewN | apply Kd.R_drew)); exact HO_6.out⟩, ⟨by (with_reducible repeat (first | refine bkN ?_ _ | refine bkD ?_ | refine bkA ?_ _)); exact BK168.out⟩, ⟨by (with_reducible repeat (first | refine bkN ?_ _ | refine bkD ?_ | refine bkA ?_ _)); exact BK169.out⟩, ⟨by (with_reducible repeat (first | refine bkN ?_ _ | refine bkD ?_ | refine bkA ?_ _)); exact BK183.out⟩, ⟨by (with_reducible repeat (first | refine bkN ?_ _ | refine bkD ?_ | refine bkA ?_ _)); exact BK185.out⟩, ⟨by repeat (first | (with_reducible first | exact HB.out | apply bwA | apply pbN | apply bwD | refine bwS ?_ GE168.out | refine bwS ?_ GE169.out | refine bwS ?_ GE183.out | refine bwS ?_ GE185.out) | exact HB.out)⟩⟩
            ·rw [if_neg c47] at H
             exact absurd H (by simp)
           ·rw [if_neg c46] at H
            have c46b0 : decide (x10_3 < (t178.length : Int)) = false := decide_eq_false c46
            clear c46
            by_cases c70 : (x186000_3 == ((rd_T25 x5_2 (ji26)).f0) && (x186001_3 == ((rd_T25 x5_2 (ji26)).f1))) = true
            ·rw [if_pos c70] at H
             have c70b0 : (x186000_3 == ((rd_T25 x5_2 (ji26)).f0) && (x186001_3 == ((rd_T25 x5_2 (ji26)).f1))) = true := c70
             (try (have c70b1 : decide (x186000_3 = ((rd_T25 x5_2 (ji26)).f0) && (x186001_3 == ((rd_T25 x5_2 (ji26)).f1))) = true := by simpa using c70))
             (try (have c70b2 : (x186000_3 == ((rd_T25 x5_2 (ji26)).f0) && (x186001_3 == ((rd_T25 x5_2 (ji26)).f1))) = true := by simpa using c70))
             clear c70
             obtain ⟨y186, hy186⟩ : ∃ y_ : List (S25), y_ = (([] : List (S25))) := ⟨_, rfl⟩
             replace H : (some y186) = some r := by first | (rw [hy186]; with_reducible exact H) | (have H2_ := (Option.bind_some _ _).symm.trans H; rw [hy186]; with_reducible exact H2_) | (have H2_ := (Option.bind_some _ _).symm.trans H; with_reducible exact H2_) | with_reducible exact H | (rw [hy186]; exact H) | exact H
             have Ny186 := Az.mk hy186
             clear hy186
             obtain rfl := Option.some.inj H
             obtain ⟨Ao71, co71, eo71⟩ := Kd.R_slice HO_6.out
             subst eo71
             have hnb72 := NB185_168.out
             have hnc72 := NB168_185.out
             have hnb73 := NB185_169.out
             have hnc73 := NB169_185.out
             have hnb74 := NB185_183.out
             have hnc74 := NB183_185.out
             have hcz75_0 : wr.cell? ⟨gb185, 0, none⟩ = some (.int .i64 x186000_3) := (bkC BK185.out 0).trans rfl
             have hcz75_1 : wr.cell? ⟨gb185, 1, none⟩ = some (.int .i64 x186001_3) := (bkC BK185.out 1).trans rfl
             have hfz75_0 := bkF BK185.out 0
             have hfz75_1 := bkF BK185.out 1
             have hnb76 := NB183_168.out
             have hnc76 := NB168_183.out
             have hnb77 := NB183_169.out
             have hnc77 := NB169_183.out
             have hcz78_0 : wr.cell? ⟨gb183, 0, none⟩ = some (.int .i64 ((rd_T25 x5_2 (ji26)).f0)) := (bkC BK183.out 0).trans rfl
             have hcz78_1 : wr.cell? ⟨gb183, 1, none⟩ = some (.int .i64 ((rd_T25 x5_2 (ji26)).f1)) := (bkC BK183.out 1).trans rfl
             have hfz78_0 := bkF BK183.out 0
             have hfz78_1 := bkF BK183.out 1
             go_wp2_with (first | ((with_reducible refine gtD (N := 77) rfl ?_); refine Kd.R_lit k25 _ 25 ?hg (N := 77) ?hd (xs := ([] : List (S25))) (inner := []) (ok := fun _ => True) (okp := fun _ => True) ?hr ?hp (fun _ hk => hk) trivial (Below.refl _ _) (Nat.le_refl _) (by simp) ?_; (case hd => rfl); (case hg => rfl); (case hr => first | (go_simp; done) | (go_simp; rfl)); (case hp => exact (Reps.none _ _)); intro v187 w79 ho80 hb hg_ hnew_; clear hg_ hnew_; (first | rw [← Ny186.out] at ho80 | (simp only [Int.reduceToNat] at ho80; rw [← Ny186.out] at ho80)); have n0_ := Az.mk (Kd.R_elder' (by (with_reducible repeat (first | apply Kd.R_alloc | apply Kd.R_drewN | apply Kd.R_drew)); exact HO_5.out) (Kd.R_base ho80) hb); have n1_ := Az.mk (Kd.R_elder' (by (with_reducible repeat (first | apply Kd.R_alloc | apply Kd.R_drewN | apply Kd.R_drew)); exact HO_6.out) (Kd.R_base ho80) hb); have n2_ := Az.mk (Kd.R_lower (Kd.R_newB (Kd.R_newB (Kd.R_newB (Kd.R_newB (Kd.R_new' (Kd.R_new' ho80 (Kd.R_lt (by (with_reducible repeat (first | apply Kd.R_alloc | apply Kd.R_drewN | apply Kd.R_drew)); exact HO_5.out))) (Kd.R_lt (by (with_reducible repeat (first | apply Kd.R_alloc | apply Kd.R_drewN | apply Kd.R_drew)); exact HO_6.out))) (g := gb168) (o := .cells #[.int .i64 a0_0, .int .i64 a0_1] 25 (0, 0)) (by (with_reducible repeat (first | refine bkN ?_ _ | refine bkD ?_ | refine bkA ?_ _)); exact BK168.out)) (g := gb169) (o := .cells #[.int .i64 a1_0, .int .i64 a1_1] 25 (0, 0)) (by (with_reducible repeat (first | refine bkN ?_ _ | refine bkD ?_ | refine bkA ?_ _)); exact BK169.out)) (g := gb183) (o := .cells #[.int .i64 ((rd_T25 x5_2 (ji26)).f0), .int .i64 ((rd_T25 x5_2 (ji26)).f1)] 25 (0, 0)) (by (with_reducible repeat (first | refine bkN ?_ _ | refine bkD ?_ | refine bkA ?_ _)); exact BK183.out)) (g := gb185) (o := .cells #[.int .i64 x186000_3, .int .i64 x186001_3] 25 (0, 0)) (by (with_reducible repeat (first | refine bkN ?_ _ | refine bkD ?_ | refine bkA ?_ _)); exact BK185.out)) (bwZ (by repeat (first | (with_reducible first | exact HB.out | apply bwA | apply pbN | apply bwD | refine bwS ?_ GE168.out | refine bwS ?_ GE169.out | refine bwS ?_ GE183.out | refine bwS ?_ GE185.out) | exact HB.out)))); have n3_ := Az.mk (bkB (g := gb168) (o := .cells #[.int .i64 a0_0, .int .i64 a0_1] 25 (0, 0)) (by (with_reducible repeat (first | refine bkN ?_ _ | refine bkD ?_ | refine bkA ?_ _)); exact BK168.out) hb); have n4_ := Az.mk (bkB (g := gb169) (o := .cells #[.int .i64 a1_0, .int .i64 a1_1] 25 (0, 0)) (by (with_reducible repeat (first | refine bkN ?_ _ | refine bkD ?_ | refine bkA ?_ _)); exact BK169.out) hb); have n5_ := Az.mk (bkB (g := gb183) (o := .cells #[.int .i64 ((rd_T25 x5_2 (ji26)).f0), .int .i64 ((rd_T25 x5_2 (ji26)).f1)] 25 (0, 0)) (by (with_reducible repeat (first | refine bkN ?_ _ | refine bkD ?_ | refine bkA ?_ _)); exact BK183.out) hb); have n6_ := Az.mk (bkB (g := gb185) (o := .cells #[.int .i64 x186000_3, .int .i64 x186001_3] 25 (0, 0)) (by (with_reducible repeat (first | refine bkN ?_ _ | refine bkD ?_ | refine bkA ?_ _)); exact BK185.out) hb); have n7_ := Az.mk (bwT (by repeat (first | (with_reducible first | exact HB.out | apply bwA | apply pbN | apply bwD | refine bwS ?_ GE168.out | refine bwS ?_ GE169.out | refine bwS ?_ GE183.out | refine bwS ?_ GE185.out) | exact HB.out)) hb); clear HO_5; clear HO_6; clear BK168; clear BK169; clear BK183; clear BK185; clear HB; have HO_5 := n0_; have HO_6 := n1_; have HO188 := n2_; have BK168 := n3_; have BK169 := n4_; have BK183 := n5_; have BK185 := n6_; have HB := n7_; clear n0_ n1_ n2_ n3_ n4_ n5_ n6_ n7_; clear hb ho80))
             go_ret
             exact ⟨_, by first | rfl | (simp [eWn, eWs] <;> rfl) | (simp only [← hji26]; first | rfl | (simp [eWn, eWs] <;> rfl)) | (simp [*, eWn, eWs] <;> rfl), by (with_reducible repeat (first | apply Kd.R_alloc | apply Kd.R_drewN | apply Kd.R_drew)); exact Kd.R_mono HO188.out (fun _ hk => trivial), by repeat (first | (with_reducible first | exact HB.out | apply bwA | apply pbN | apply bwD | refine bwS ?_ GE168.out | refine bwS ?_ GE169.out | refine bwS ?_ GE183.out | refine bwS ?_ GE185.out) | exact HB.out)⟩
            ·rw [if_neg c70] at H
             have c70b0 : (x186000_3 == ((rd_T25 x5_2 (ji26)).f0) && (x186001_3 == ((rd_T25 x5_2 (ji26)).f1))) = false := by simpa using c70
             (try (have c70b1 : decide (x186000_3 = ((rd_T25 x5_2 (ji26)).f0) && (x186001_3 == ((rd_T25 x5_2 (ji26)).f1))) = false := by simpa using c70))
             (try (have c70b2 : (x186000_3 == ((rd_T25 x5_2 (ji26)).f0) && (x186001_3 == ((rd_T25 x5_2 (ji26)).f1))) = false := by simpa using c70))
             (try (have c70b3 : ¬ (x186000_3 = ((rd_T25 x5_2 (ji26)).f0) && (x186001_3 == ((rd_T25 x5_2 (ji26)).f1))) := by simpa using c70))
             clear c70
             by_cases c81 : x5_2.length < 8796093022208
             ·rw [if_pos c81] at H
              have LMc81 := Az.mk c81
              clear c81
              obtain ⟨y189, hy189⟩ : ∃ y_ : List (S25), y_ = (x5_2 ++ [(⟨x186000_3, x186001_3⟩ : S25)]) := ⟨_, rfl⟩
              replace H : (spec_StepsBetween.l0 k3 y189 t178 a1_0 a1_1) = some r := by first | (rw [hy189]; with_reducible exact H) | (have H2_ := (Option.bind_some _ _).symm.trans H; rw [hy189]; with_reducible exact H2_) | (have H2_ := (Option.bind_some _ _).symm.trans H; with_reducible exact H2_) | with_reducible exact H | (rw [hy189]; exact H) | exact H
              have Ny189 := Az.mk hy189
              clear hy189
              have H' := Az.mk H
              clear H
              obtain ⟨Ao82, co82, eo82⟩ := Kd.R_slice HO_6.out
              subst eo82
              have hnb83 := NB185_168.out
              have hnc83 := NB168_185.out
              have hnb84 := NB185_169.out
              have hnc84 := NB169_185.out
              have hnb85 := NB185_183.out
              have hnc85 := NB183_185.out
              have hcz86_0 : wr.cell? ⟨gb185, 0, none⟩ = some (.int .i64 x186000_3) := (bkC BK185.out 0).trans rfl
              have hcz86_1 : wr.cell? ⟨gb185, 1, none⟩ = some (.int .i64 x186001_3) := (bkC BK185.out 1).trans rfl
              have hfz86_0 := bkF BK185.out 0
              have hfz86_1 := bkF BK185.out 1
              have hnb87 := NB183_168.out
              have hnc87 := NB168_183.out
              have hnb88 := NB183_169.out
              have hnc88 := NB169_183.out
              have hcz89_0 : wr.cell? ⟨gb183, 0, none⟩ = some (.int .i64 ((rd_T25 x5_2 (ji26)).f0)) := (bkC BK183.out 0).trans rfl
              have hcz89_1 : wr.cell? ⟨gb183, 1, none⟩ = some (.int .i64 ((rd_T25 x5_2 (ji26)).f1)) := (bkC BK183.out 1).trans rfl
              have hfz89_0 := bkF BK183.out 0
              have hfz89_1 := bkF BK183.out 1
              go_wp2_with (first | ((with_reducible refine gate_builtin (b := .append) (xs := #[.tmp 78, .tmp 80]) rfl ?_); at_builtin; refine Kd.R_append k25 (w0 := w) w.heap.size rfl (.tmp 78) (.tmp 80) 28 25 (.agg #[(.int .i64 0), (.int .i64 0)]) 16 rfl Try.underlying28 info25 rfl (by decide) (by omega) (.slice (some ad181) x5_2.length co32) x5_2 (⟨x186000_3, x186001_3⟩ : S25) [.int .i64 x186000_3, .int .i64 x186001_3] (fun k_ => some k_ ≠ (.slice Ao82 t178.length co82 : Value).ownBlock ∧ k_ ≠ gb168 ∧ k_ ≠ gb169 ∧ k_ ≠ gb183 ∧ k_ ≠ gb185) (fun _ => False) rfl rfl ?aP (fun _ hk => hk.elim) ?aF ?aO ?aB ?aS ?aL ?_; (case aP => exact k25_mkM _ _ _ (⟨x186000_3, x186001_3⟩ : S25)); (case aB => exact (by repeat (first | (with_reducible first | exact HB.out | apply bwA | apply pbN | apply bwD | refine bwS ?_ GE168.out | refine bwS ?_ GE169.out | refine bwS ?_ GE183.out | refine bwS ?_ GE185.out) | exact HB.out))); (case aF => exact (fun k_ hk => ⟨Kd.fresh' (Kd.R_lt (by (with_reducible repeat (first | apply Kd.R_alloc | apply Kd.R_drewN | apply Kd.R_drew)); exact HO_6.out)) k_ hk, Kd.freshB (g := gb168) (o := .cells #[.int .i64 a0_0, .int .i64 a0_1] 25 (0, 0)) (by (with_reducible repeat (first | refine bkN ?_ _ | refine bkD ?_ | refine bkA ?_ _)); exact BK168.out) k_ hk, Kd.freshB (g := gb169) (o := .cells #[.int .i64 a1_0, .int .i64 a1_1] 25 (0, 0)) (by (with_reducible repeat (first | refine bkN ?_ _ | refine bkD ?_ | refine bkA ?_ _)); exact BK169.out) k_ hk, Kd.freshB (g := gb183) (o := .cells #[.int .i64 ((rd_T25 x5_2 (ji26)).f0), .int .i64 ((rd_T25 x5_2 (ji26)).f1)] 25 (0, 0)) (by (with_reducible repeat (first | refine bkN ?_ _ | refine bkD ?_ | refine bkA ?_ _)); exact BK183.out) k_ hk, Kd.freshB (g := gb185) (o := .cells #[.int .i64 x186000_3, .int .i64 x186001_3] 25 (0, 0)) (by (with_reducible repeat (first | refine bkN ?_ _ | refine bkD ?_ | refine bkA ?_ _)); exact BK185.out) k_ hk⟩)); (case aO => exact (by (with_reducible repeat (first | apply Kd.R_alloc | apply Kd.R_drewN | apply Kd.R_drew)); exact HO_5.out)); (case aS => exact (bwZ (by repeat (first | (with_reducible first | exact HB.out | apply bwA | apply pbN | apply bwD | refine bwS ?_ GE168.out | refine bwS ?_ GE169.out | refine bwS ?_ GE183.out | refine bwS ?_ GE185.out) | exact HB.out)))); (case aL => have := LMc81.out; omega); intro v190 w90 ho hb hg hat; rw [← Ny189.out] at ho; have n0_ := Az.mk (Kd.R_after (ok := (fun k_ => k_ ≠ gb168 ∧ k_ ≠ gb169 ∧ k_ ≠ gb183 ∧ k_ ≠ gb185)) (by (with_reducible repeat (first | apply Kd.R_alloc | apply Kd.R_drewN | apply Kd.R_drew)); exact Kd.R_mono HO_6.out (fun _ hk => ⟨⟨hk.2.1, ⟨hk.2.2.1, ⟨hk.2.2.2.1, hk.2.2.2.2⟩⟩⟩, hk.1⟩)) hg hat); have n1_ := Az.mk (blk_grown (g := gb168) (o := .cells #[.int .i64 a0_0, .int .i64 a0_1] 25 (0, 0)) (by (with_reducible repeat (first | refine bkN ?_ _ | refine bkD ?_ | refine bkA ?_ _)); exact BK168.out) hg (Kd.R_away HO_5.out (fun _ hk => hk.2.1))); have n2_ := Az.mk (blk_grown (g := gb169) (o := .cells #[.int .i64 a1_0, .int .i64 a1_1] 25 (0, 0)) (by (with_reducible repeat (first | refine bkN ?_ _ | refine bkD ?_ | refine bkA ?_ _)); exact BK169.out) hg (Kd.R_away HO_5.out (fun _ hk => hk.2.2.1))); have n3_ := Az.mk (blk_grown (g := gb183) (o := .cells #[.int .i64 ((rd_T25 x5_2 (ji26)).f0), .int .i64 ((rd_T25 x5_2 (ji26)).f1)] 25 (0, 0)) (by (with_reducible repeat (first | refine bkN ?_ _ | refine bkD ?_ | refine bkA ?_ _)); exact BK183.out) hg (Kd.R_away HO_5.out (fun _ hk => hk.2.2.2.1))); have n4_ := Az.mk (blk_grown (g := gb185) (o := .cells #[.int .i64 x186000_3, .int .i64 x186001_3] 25 (0, 0)) (by (with_reducible repeat (first | refine bkN ?_ _ | refine bkD ?_ | refine bkA ?_ _)); exact BK185.out) hg (Kd.R_away HO_5.out (fun _ hk => hk.2.2.2.2))); have n5_ := Az.mk (hb); have n6_ := Az.mk (ho); clear HO_6; clear BK168; clear BK169; clear BK183; clear BK185; clear HB; clear HO_5; have HO_6 := n0_; have BK168 := n1_; have BK169 := n2_; have BK183 := n3_; have BK185 := n4_; have HB := n5_; have HO191 := n6_; clear n0_ n1_ n2_ n3_ n4_ n5_ n6_; clear ho hb hg hat))
              go_roundg k3
              case measure => have := HJ2.out; have := HK2.out; have := HK3.out; omega
              case rel => exact ⟨(y189), H', ⟨by have := HJ2.out; have := HK2.out; have := HK3.out; omega⟩, ⟨by (with_reducible repeat (first | apply Kd.R_alloc | apply Kd.R_drewN | apply Kd.R_drew)); exact Kd.R_mono HO191.out (fun _ hk => ⟨hk.1, ⟨hk.2.1, hk.2.2.1⟩⟩)⟩, ⟨by (with_reducible repeat (first | apply Kd.R_alloc | apply Kd.R_drewN | apply Kd.R_drew)); exact Kd.R_mono HO_6.out (fun _ hk => ⟨hk.2, ⟨hk.1.1, hk.1.2.1⟩⟩)⟩, ⟨by (with_reducible repeat (first | refine bkN ?_ _ | refine bkD ?_ | refine bkA ?_ _)); exact BK168.out⟩, ⟨by (with_reducible repeat (first | refine bkN ?_ _ | refine bkD ?_ | refine bkA ?_ _)); exact BK169.out⟩, ⟨by repeat (first | (with_reducible first | exact HB.out | apply bwA | apply pbN | apply bwD | refine bwS ?_ GE168.out | refine bwS ?_ GE169.out | refine bwS ?_ GE183.out | refine bwS ?_ GE185.out) | exact HB.out)⟩⟩
             ·rw [if_neg c81] at H
              exact absurd H (by simp)
        ·rw [if_neg c29] at H
         have c29b0 : (!(((rd_T25 x5_2 (ji26)).f0) == a1_0) || (!(((rd_T25 x5_2 (ji26)).f1) == a1_1))) = false := by simpa using c29
         clear c29
         obtain rfl := Option.some.inj H
         try go_wp2
         have n0_ := Az.mk (Kd.R_drew HO_5.out)
         have n1_ := Az.mk (Kd.R_drew HO_6.out)
         have n2_ := Az.mk (bkD BK168.out)
         have n3_ := Az.mk (bkD BK169.out)
         have n4_ := Az.mk (bwD HB.out)
         clear HO_5
         clear HO_6
         clear BK168
         clear BK169
         clear HB
         have HO_5 := n0_
         have HO_6 := n1_
         have BK168 := n2_
         have BK169 := n3_
         have HB := n4_
         clear n0_ n1_ n2_ n3_ n4_
         obtain ⟨Ao92, co92, eo92⟩ := Kd.R_slice HO_5.out
         (first | subst eo92 | (injection eo92 with f1_ f2_ f3_; have f4_ := f1_.symm; have f5_ := f3_.symm; clear f1_ f2_ f3_; subst f4_; subst f5_))
         have p181 : 0 ≤ ((ji26) : Int) := of_decide_eq_true (by first | (with_reducible assumption) | assumption)
         have q181 : (ji26) < (x5_2.length : Int) := of_decide_eq_true (by first | (with_reducible assumption) | assumption)
         obtain ⟨ad181, e181, hx181_0, hx181_1⟩ := at_T25 (Kd.R_reads' HO_5.out).2.2 (ji26) p181 q181
         cases e181
         replace p181 := eq_true p181
         replace q181 := eq_true q181
         refine start_ (n := 8) (S := fun w' => w'.cell? ⟨gb169, 0, none⟩ = some (.int .i64 a1_0) ∧ w'.cell? ⟨gb169, 1, none⟩ = some (.int .i64 a1_1) ∧ w'.cell? (ad181.add (((ji26)).toNat * 2)) = some (.int .i64 ((rd_T25 x5_2 (ji26)).f0)) ∧ w'.cell? ⟨(ad181.add (((ji26)).toNat * 2)).block, (ad181.add (((ji26)).toNat * 2)).off + 1, none⟩ = some (.int .i64 ((rd_T25 x5_2 (ji26)).f1))) (ds := []) #[false, false, false, false, false, false, false, false] (by kernel_rfl) rfl rfl ⟨(bkC BK169.out 0).trans rfl, (bkC BK169.out 1).trans rfl, hx181_0, hx181_1⟩ (fun hHeld => ?_); refine with_tabW spec_StepsBetween.tab5 spec_StepsBetween.bits5 (fun HT_ HW_ => ?_)
         generalize wr.drew = w91 at HO_5 HO_6 BK168 BK169 HB hx181_0 hx181_1 hHeld ⊢
         refine pure_ (i := 0) (N := some 23) (v := ?_) (a' := ?_) #[true, false, false, false, false, false, false, false] rfl rfl (any_of HT_.out (by kernel_rfl)) (fun _ _ _ h => h) (Or.inl ⟨by rfl, ?_⟩) ?_ ?_
         rotate_left
         ·intro w'
          go_simp
          with_reducible rfl
         rotate_left
         ·simp only [Act.put, List.setIfInBounds_toArray, List.set_cons_zero, List.set_cons_succ, i64_w, i32_w]
          rfl
         refine pure_ (i := 1) (N := some 24) (v := ?_) (a' := ?_) #[true, true, false, false, false, false, false, false] rfl rfl (any_of HT_.out (by kernel_rfl)) (fun _ _ _ h => h) (Or.inl ⟨by rfl, ?_⟩) ?_ ?_
         rotate_left
         ·intro w'
          go_simp
          with_reducible rfl
         rotate_left
         ·simp only [Act.put, List.setIfInBounds_toArray, List.set_cons_zero, List.set_cons_succ, i64_w, i32_w]
          rfl
         refine pure_ (i := 2) (N := some 25) (v := ?_) (a' := ?_) #[true, true, true, false, false, false, false, false] rfl rfl (any_of HT_.out (by kernel_rfl)) (fun _ _ _ h => h) (Or.inl ⟨by rfl, ?_⟩) ?_ ?_
         rotate_left
         ·intro w'
          go_simp
          with_reducible rfl
         rotate_left
         ·simp only [Act.put, List.setIfInBounds_toArray, List.set_cons_zero, List.set_cons_succ, i64_w, i32_w]
          rfl
         refine pure_ (i := 3) (N := some 26) (v := ?_) (a' := ?_) #[true, true, true, true, false, false, false, false] rfl rfl (any_of HT_.out (by kernel_rfl)) (fun _ _ _ h => h) (Or.inl ⟨by rfl, ?_⟩) ?_ ?_
         rotate_left
         ·intro w'
          go_simp
          with_reducible rfl
         rotate_left
         ·simp only [Act.put, List.setIfInBounds_toArray, List.set_cons_zero, List.set_cons_succ, i64_w, i32_w]
          rfl
         refine pure_ (i := 4) (N := some 27) (v := ?_) (a' := ?_) #[true, true, true, true, true, false, false, false] rfl rfl (any_of HT_.out (by kernel_rfl)) (fun _ _ _ h => h) (Or.inl ⟨by rfl, ?_⟩) ?_ ?_
         rotate_left
         ·intro w'
          go_simp
          with_reducible rfl
         rotate_left
         ·simp only [Act.put, List.setIfInBounds_toArray, List.set_cons_zero, List.set_cons_succ, i64_w, i32_w]
          rfl
         refine take_ (i := 5) (N := some 28) (v := ?_) (a' := ?_) #[true, true, true, true, true, true, false, false] rfl rfl (take_ofW HT_.out HW_.out (by kernel_rfl)) (fun _ _ _ h => h) (Or.inl ⟨by rfl, ?_⟩) hHeld ?_ ?_
         rotate_left
         ·rintro w' ⟨s0, s1, s2, s3⟩
          go_simp
          with_reducible rfl
         rotate_left
         ·simp only [Act.put, List.setIfInBounds_toArray, List.set_cons_zero, List.set_cons_succ, i64_w, i32_w]
          rfl
         refine take_ (i := 6) (N := some 29) (v := ?_) (a' := ?_) #[true, true, true, true, true, true, true, false] rfl rfl (take_ofW HT_.out HW_.out (by kernel_rfl)) (fun _ _ _ h => h) (Or.inl ⟨by rfl, ?_⟩) hHeld ?_ ?_
         rotate_left
         ·rintro w' ⟨s0, s1, s2, s3⟩
          go_simp
          with_reducible rfl
         rotate_left
         ·simp only [Act.put, List.setIfInBounds_toArray, List.set_cons_zero, List.set_cons_succ, i64_w, i32_w]
          rfl
         refine pure_ (i := 7) (N := some 30) (v := ?_) (a' := ?_) #[true, true, true, true, true, true, true, true] rfl rfl (any_of HT_.out (by kernel_rfl)) (fun _ _ _ h => h) (Or.inl ⟨by rfl, ?_⟩) ?_ ?_
         rotate_left
         ·intro w'
          go_simp
          with_reducible rfl
         rotate_left
         ·simp only [Act.put, List.setIfInBounds_toArray, List.set_cons_zero, List.set_cons_succ, i64_w, i32_w]
          rfl
         refine done_ (done_of HT_.out (by kernel_rfl)) ?_
         try go_wp2
         go_ret
         exact ⟨_, by first | rfl | (simp [eWn, eWs] <;> rfl) | (simp only [← hji26]; first | rfl | (simp [eWn, eWs] <;> rfl)) | (simp [*, eWn, eWs] <;> rfl), by (with_reducible repeat (first | apply Kd.R_alloc | apply Kd.R_drewN | apply Kd.R_drew)); exact Kd.R_mono HO_5.out (fun _ hk => trivial), by repeat (first | (with_reducible first | exact HB.out | apply bwA | apply pbN | apply bwD | refine bwS ?_ GE168.out | refine bwS ?_ GE169.out) | exact HB.out)⟩
       ·rw [if_neg c28] at H
        exact absurd H (by simp)
      ·rw [if_neg c27] at H
       exact absurd H (by simp)

end Go.Proofs.Ytkblceinidiidaa.P
