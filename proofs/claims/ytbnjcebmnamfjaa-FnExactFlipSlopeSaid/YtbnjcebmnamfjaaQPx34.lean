-- By this session's driver (wip/tools/mk.py) of the kit's print program, over several statements at once. Not trusted: Lean checks it.
import Derived.Test.YtbnjcebmnamfjaaQPx0
import Derived.Test.YtbnjcebmnamfjaaQPx1
import Derived.Test.YtbnjcebmnamfjaaQPx2
import Derived.Test.YtbnjcebmnamfjaaQPx19
import Derived.Test.YtbnjcebmnamfjaaQPx20
import Derived.Test.YtbnjcebmnamfjaaQPx21
import Derived.Test.YtbnjcebmnamfjaaQPx22
import Derived.Test.YtbnjcebmnamfjaaQPx33
namespace Go.Proofs.Ytbnjcebmnamfjaa.P
open Go.RowKit Go.Proofs.YtbnjcebmnamfjaaW.PrintWords Go.Proofs.YtbnjcebmnamfjaaW.PrintLast Go.Proofs.YtbnjcebmnamfjaaW.PrintMore
attribute [local go_sem] max2_int min2_int max_two min_two max_three min_three max_four min_four   -- for this text's walks alone
set_option linter.unusedVariables false
set_option linter.unusedSimpArgs false

attribute [local go_sem high] eqA25
/-! ### spec_FlipSlope: function 35 -/
mutual
def spec_FlipSlope.j0 : Nat → Int → Bool → Int → Int → Option (Int × Int × Bool)
 | 0, _, _, _, _ => none
 | k + 1, x1, x31, x629000, x629001 => if x31 = true then (some (0, 0, false)) else ((spec_TurnsTo.f k x629000 x629001).bind fun t632 => ((spec_TurnsOf.f k t632).bind fun bt633 => (if bt633.2.2.2.2 = true then (spec_FlipSlope.l0 k x1 (([] : List (S25))) 1 bt633.1 bt633.2.1 bt633.2.2.1 bt633.2.2.2.1) else (some (0, 0, false)))))
def spec_FlipSlope.l0 : Nat → Int → List (S25) → Int → Int → Int → Int → Int → Option (Int × Int × Bool)
 | 0, _, _, _, _, _, _, _ => none
 | k + 1, x1, x8, x9, x639000, x639001, x639002, x639003 => if x9 ≤ 3 then ((spec_l17Edge.f x9).bind fun bt642 => ((spec_MoveSlope.f k x639000 x639001 x639002 x639003 bt642.1 bt642.2).bind fun bt644 => (if bt644.2.2 = true then (if x8.length < 8796093022208 then (spec_FlipSlope.l0 k x1 (x8 ++ [(⟨bt644.1, bt644.2.1⟩ : S25)]) (wrap64 (x9 + 1)) x639000 x639001 x639002 x639003) else (none)) else (some (0, 0, false))))) else (if 0 ≤ (Int.tmod x1 3) then (if (Int.tmod x1 3) < (x8.length : Int) then (if 0 ≤ (Int.tmod (wrap64 (x1 + 1)) 3) then (if (Int.tmod (wrap64 (x1 + 1)) 3) < (x8.length : Int) then ((spec_CommonNeighbours.f k ((rd_T25 x8 (Int.tmod x1 3)).f0) ((rd_T25 x8 (Int.tmod x1 3)).f1) ((rd_T25 x8 (Int.tmod (wrap64 (x1 + 1)) 3)).f0) ((rd_T25 x8 (Int.tmod (wrap64 (x1 + 1)) 3)).f1)).bind fun t653 => (spec_FlipSlope.l1 k x1 x8 t653 0)) else (none)) else (none)) else (none)) else (none))
def spec_FlipSlope.l1 : Nat → Int → List (S25) → List (S25) → Int → Option (Int × Int × Bool)
 | 0, _, _, _, _ => none
 | k + 1, x1, x8, x12, x13 => if x13 < (x12.length : Int) then (if 0 ≤ x13 then (if 0 ≤ (wrap64 (x1 - 1)) then (if (wrap64 (x1 - 1)) < (x8.length : Int) then (if (!(((rd_T25 x12 x13).f0) == ((rd_T25 x8 (wrap64 (x1 - 1))).f0)) || (!(((rd_T25 x12 x13).f1) == ((rd_T25 x8 (wrap64 (x1 - 1))).f1)))) = true then (some ((rd_T25 x12 x13).f0, (rd_T25 x12 x13).f1, true)) else (spec_FlipSlope.l1 k x1 x8 x12 (wrap64 (x13 + 1)))) else (none)) else (none)) else (none)) else (some (0, 0, false))
end
def spec_FlipSlope.f (k : Nat) (a0_0 : Int) (a0_1 : Int) (a1 : Int) : Option (Int × Int × Bool) := (spec_IsSlope.f k a0_0 a0_1).bind fun t630 => (if t630 = true then (if a0_0 < 1 then (spec_FlipSlope.j0 k a1 true a0_0 a0_1) else (if a0_1 < 1 then (spec_FlipSlope.j0 k a1 true a0_0 a0_1) else ((spec_l1In.f a1 1 3).bind fun t631 => (spec_FlipSlope.j0 k a1 (!t631) a0_0 a0_1)))) else (spec_FlipSlope.j0 k a1 true a0_0 a0_1))
theorem spec_FlipSlope.mono_l : ∀ k, (∀ y0 y1 y2 y3, LeO (spec_FlipSlope.j0 k y0 y1 y2 y3) (spec_FlipSlope.j0 (k + 1) y0 y1 y2 y3)) ∧ (∀ y0 y1 y2 y3 y4 y5 y6, LeO (spec_FlipSlope.l0 k y0 y1 y2 y3 y4 y5 y6) (spec_FlipSlope.l0 (k + 1) y0 y1 y2 y3 y4 y5 y6)) ∧ (∀ y0 y1 y2 y3, LeO (spec_FlipSlope.l1 k y0 y1 y2 y3) (spec_FlipSlope.l1 (k + 1) y0 y1 y2 y3))
 | 0 => ⟨fun _ _ _ _ r h => by simp [spec_FlipSlope.j0] at h, fun _ _ _ _ _ _ _ r h => by simp [spec_FlipSlope.l0] at h, fun _ _ _ _ r h => by simp [spec_FlipSlope.l1] at h⟩
 | k + 1 => by
  obtain ⟨ih0, ih1, ih2⟩ := spec_FlipSlope.mono_l k
  refine ⟨?_, ?_, ?_⟩
  ·intro y0 y1 y2 y3
   unfold spec_FlipSlope.j0
   repeat' first
   | (with_reducible exact ih0 _ _ _ _)
   | (with_reducible exact ih1 _ _ _ _ _ _ _)
   | (with_reducible exact ih2 _ _ _ _)
   | (with_reducible exact spec_CommonNeighbours.mono _ _ _ _ _)
   | (with_reducible exact spec_IsSlope.mono _ _ _)
   | (with_reducible exact spec_MoveSlope.mono _ _ _ _ _ _ _)
   | (with_reducible exact spec_TurnsOf.mono _ _)
   | (with_reducible exact spec_TurnsTo.mono _ _ _)
   | (with_reducible exact LeO.refl _)
   | (with_reducible exact LeO.none _)
   | (with_reducible refine LeO.ite ?_ ?_)
   | (with_reducible refine LeO.bind ?_ (fun _ => ?_))
   | exact ih0 _ _ _ _
   | exact ih1 _ _ _ _ _ _ _
   | exact ih2 _ _ _ _
   | exact spec_CommonNeighbours.mono _ _ _ _ _
   | exact spec_IsSlope.mono _ _ _
   | exact spec_MoveSlope.mono _ _ _ _ _ _ _
   | exact spec_TurnsOf.mono _ _
   | exact spec_TurnsTo.mono _ _ _
   | exact LeO.none _
   | refine LeO.ite ?_ ?_
   | refine LeO.bind ?_ (fun _ => ?_)
  ·intro y0 y1 y2 y3 y4 y5 y6
   unfold spec_FlipSlope.l0
   repeat' first
   | (with_reducible exact ih0 _ _ _ _)
   | (with_reducible exact ih1 _ _ _ _ _ _ _)
   | (with_reducible exact ih2 _ _ _ _)
   | (with_reducible exact spec_CommonNeighbours.mono _ _ _ _ _)
   | (with_reducible exact spec_IsSlope.mono _ _ _)
   | (with_reducible exact spec_MoveSlope.mono _ _ _ _ _ _ _)
   | (with_reducible exact spec_TurnsOf.mono _ _)
   | (with_reducible exact spec_TurnsTo.mono _ _ _)
   | (with_reducible exact LeO.refl _)
   | (with_reducible exact LeO.none _)
   | (with_reducible refine LeO.ite ?_ ?_)
   | (with_reducible refine LeO.bind ?_ (fun _ => ?_))
   | exact ih0 _ _ _ _
   | exact ih1 _ _ _ _ _ _ _
   | exact ih2 _ _ _ _
   | exact spec_CommonNeighbours.mono _ _ _ _ _
   | exact spec_IsSlope.mono _ _ _
   | exact spec_MoveSlope.mono _ _ _ _ _ _ _
   | exact spec_TurnsOf.mono _ _
   | exact spec_TurnsTo.mono _ _ _
   | exact LeO.none _
   | refine LeO.ite ?_ ?_
   | refine LeO.bind ?_ (fun _ => ?_)
  ·intro y0 y1 y2 y3
   unfold spec_FlipSlope.l1
   repeat' first
   | (with_reducible exact ih0 _ _ _ _)
   | (with_reducible exact ih1 _ _ _ _ _ _ _)
   | (with_reducible exact ih2 _ _ _ _)
   | (with_reducible exact spec_CommonNeighbours.mono _ _ _ _ _)
   | (with_reducible exact spec_IsSlope.mono _ _ _)
   | (with_reducible exact spec_MoveSlope.mono _ _ _ _ _ _ _)
   | (with_reducible exact spec_TurnsOf.mono _ _)
   | (with_reducible exact spec_TurnsTo.mono _ _ _)
   | (with_reducible exact LeO.refl _)
   | (with_reducible exact LeO.none _)
   | (with_reducible refine LeO.ite ?_ ?_)
   | (with_reducible refine LeO.bind ?_ (fun _ => ?_))
   | exact ih0 _ _ _ _
   | exact ih1 _ _ _ _ _ _ _
   | exact ih2 _ _ _ _
   | exact spec_CommonNeighbours.mono _ _ _ _ _
   | exact spec_IsSlope.mono _ _ _
   | exact spec_MoveSlope.mono _ _ _ _ _ _ _
   | exact spec_TurnsOf.mono _ _
   | exact spec_TurnsTo.mono _ _ _
   | exact LeO.none _
   | refine LeO.ite ?_ ?_
   | refine LeO.bind ?_ (fun _ => ?_)
theorem spec_FlipSlope.mono : ∀ a0 a1 a2 k, LeO (spec_FlipSlope.f k a0 a1 a2) (spec_FlipSlope.f (k + 1) a0 a1 a2) := by
 intro a0 a1 a2 k
 obtain ⟨ih0, ih1, ih2⟩ := spec_FlipSlope.mono_l k
 unfold spec_FlipSlope.f
 repeat' first
   | (with_reducible exact ih0 _ _ _ _)
   | (with_reducible exact ih1 _ _ _ _ _ _ _)
   | (with_reducible exact ih2 _ _ _ _)
   | (with_reducible exact spec_CommonNeighbours.mono _ _ _ _ _)
   | (with_reducible exact spec_IsSlope.mono _ _ _)
   | (with_reducible exact spec_MoveSlope.mono _ _ _ _ _ _ _)
   | (with_reducible exact spec_TurnsOf.mono _ _)
   | (with_reducible exact spec_TurnsTo.mono _ _ _)
   | (with_reducible exact LeO.refl _)
   | (with_reducible exact LeO.none _)
   | (with_reducible refine LeO.ite ?_ ?_)
   | (with_reducible refine LeO.bind ?_ (fun _ => ?_))
   | exact ih0 _ _ _ _
   | exact ih1 _ _ _ _ _ _ _
   | exact ih2 _ _ _ _
   | exact spec_CommonNeighbours.mono _ _ _ _ _
   | exact spec_IsSlope.mono _ _ _
   | exact spec_MoveSlope.mono _ _ _ _ _ _ _
   | exact spec_TurnsOf.mono _ _
   | exact spec_TurnsTo.mono _ _ _
   | exact LeO.none _
   | refine LeO.ite ?_ ?_
   | refine LeO.bind ?_ (fun _ => ?_)
def spec_FlipSlope.T10 : Bool × List (List Nat × List Nat) := (true, [([], []), ([], []), ([1], [1]), ([0, 2, 2], [0, 2]), ([3], [3]), ([4], [4]), ([4], [4]), ([], []), ([7, 5, 3, 0, 1, 2, 3, 4, 5, 7], [5, 7]), ([6, 8, 0, 1, 2, 3, 4, 5, 6, 7, 8], [6])])
def spec_FlipSlope.B10 : List Nat := [0, 0, 2, 7, 15, 31, 31, 0, 191, 511]
theorem spec_FlipSlope.tab10 : rtab .any (opsOf Try.f35 10) = spec_FlipSlope.T10 := by kernel_rfl
theorem spec_FlipSlope.bits10 : waitsOk spec_FlipSlope.T10.2 spec_FlipSlope.B10 = true := by kernel_rfl
def spec_FlipSlope.T14 : Bool × List (List Nat × List Nat) := (true, [([], []), ([], []), ([1], [1]), ([0, 2], [0, 2]), ([3], [3]), ([], []), ([], []), ([6], [6]), ([7], [7]), ([5, 8], [5, 8]), ([9], [9]), ([4, 10], [4, 10]), ([11, 11, 0, 1, 2, 3, 4, 5, 6, 7, 8, 9, 10, 11], [11])])
def spec_FlipSlope.B14 : List Nat := [0, 0, 2, 7, 15, 0, 0, 64, 192, 480, 992, 2047, 4095]
theorem spec_FlipSlope.tab14 : rtab .any (opsOf Try.f35 14) = spec_FlipSlope.T14 := by kernel_rfl
theorem spec_FlipSlope.bits14 : waitsOk spec_FlipSlope.T14.2 spec_FlipSlope.B14 = true := by kernel_rfl
def spec_FlipSlope.T18 : Bool × List (List Nat × List Nat) := (true, [([], []), ([], []), ([0, 1], [0, 1]), ([2], [2]), ([], []), ([], []), ([5], [5]), ([4, 6], [4, 6]), ([7], [7]), ([3, 8], [3, 8])])
def spec_FlipSlope.B18 : List Nat := [0, 0, 3, 7, 0, 0, 32, 112, 240, 511]
theorem spec_FlipSlope.tab18 : rtab .any (opsOf Try.f35 18) = spec_FlipSlope.T18 := by kernel_rfl
theorem spec_FlipSlope.bits18 : waitsOk spec_FlipSlope.T18.2 spec_FlipSlope.B18 = true := by kernel_rfl
set_option maxHeartbeats 8000000 in
set_option maxRecDepth 100000 in
theorem spec_FlipSlope.calls (k : Nat) (a0_0 : Int) (a0_1 : Int) (a1 : Int) (r1 : Int) (r2 : Int) (r3 : Bool) (w : World) (h : spec_FlipSlope.f k a0_0 a0_1 a1 = some (r1, r2, r3)) :
  Calls Try.prog 35 #[.agg #[.int .i64 a0_0, .int .i64 a0_1], .int .i64 a1] w fun e w' => e = .returned (.tuple #[.agg #[.int .i64 r1, .int .i64 r2], .bool r3]) ∧ Below w.heap.size w w' := by
 have hu25 := Try.underlying25
 have hu46 := Try.underlying46
 have HB := Az.mk (Below.refl w.heap.size w)
 have H : ((spec_IsSlope.f k a0_0 a0_1).bind fun t630 => (if t630 = true then (if a0_0 < 1 then (spec_FlipSlope.j0 k a1 true a0_0 a0_1) else (if a0_1 < 1 then (spec_FlipSlope.j0 k a1 true a0_0 a0_1) else ((spec_l1In.f a1 1 3).bind fun t631 => (spec_FlipSlope.j0 k a1 (!t631) a0_0 a0_1)))) else (spec_FlipSlope.j0 k a1 true a0_0 a0_1))) = some (r1, r2, r3) := h
 clear h
 have HC3 := Az.mk H
 clear H
 go_enter Try.func35, Try.ntmps35
 go_upto_region 1 with (first | ((with_reducible refine gtD (N := 2) rfl ?_); refine bxE ?hg (N := 2) ?hd (cs := #[.int .i64 a0_0, .int .i64 a0_1]) (t := 25) ?hr ?_; (case hd => rfl); (case hg => rfl); (case hr => first | (go_simp; done) | (go_simp; rfl)); intro gb628 hg w4 hbox hb; have n0_ := Az.mk (bwT (by repeat (first | (with_reducible first | exact HB.out | apply bwA | apply pbN | apply bwD) | exact HB.out)) hb); have n1_ := Az.mk (hbox); have n2_ := Az.mk ((by rw [hg]; exact (bwZ (by repeat (first | (with_reducible first | exact HB.out | apply bwA | apply pbN | apply bwD) | exact HB.out))) : w.heap.size ≤ gb628)); have n3_ := Az.mk ((by rw [hg]; exact (bwZ (by repeat (first | (with_reducible first | exact HB.out | apply bwA | apply pbN | apply bwD) | exact HB.out))) : w.heap.size ≤ gb628)); clear HB; have HB := n0_; have BK628 := n1_; have GW628 := n2_; have GE628 := n3_; clear n0_ n1_ n2_ n3_; clear hb hbox hg) | ((with_reducible refine gtD (N := 4) rfl ?_); refine bxE ?hg (N := 4) ?hd (cs := #[.int .i64 0, .int .i64 0]) (t := 25) ?hr ?_; (case hd => rfl); (case hg => rfl); (case hr => first | (go_simp; done) | (go_simp; rfl)); intro gb629 hg w5 hbox hb; have n0_ := Az.mk (bkB (g := gb628) (o := .cells #[.int .i64 a0_0, .int .i64 a0_1] 25 (0, 0)) (by (with_reducible repeat (first | refine bkN ?_ _ | refine bkD ?_ | refine bkA ?_ _)); exact BK628.out) hb); have n1_ := Az.mk (bwT (by repeat (first | (with_reducible first | exact HB.out | apply bwA | apply pbN | apply bwD | refine bwS ?_ GE628.out) | exact HB.out)) hb); have n2_ := Az.mk (hbox); have n3_ := Az.mk ((by rw [hg]; exact (bwZ (by repeat (first | (with_reducible first | exact HB.out | apply bwA | apply pbN | apply bwD | refine bwS ?_ GE628.out) | exact HB.out))) : w.heap.size ≤ gb629)); have n4_ := Az.mk ((by rw [hg]; exact (bwZ (by repeat (first | (with_reducible first | exact HB.out | apply bwA | apply pbN | apply bwD | refine bwS ?_ GE628.out) | exact HB.out))) : w.heap.size ≤ gb629)); have n5_ := Az.mk ((by rw [hg]; exact Nat.ne_of_lt (blk_lt (g := gb628) (o := .cells #[.int .i64 a0_0, .int .i64 a0_1] 25 (0, 0)) (by (with_reducible repeat (first | refine bkN ?_ _ | refine bkD ?_ | refine bkA ?_ _)); exact BK628.out)) : gb628 ≠ gb629)); have n6_ := Az.mk ((by rw [hg]; exact Nat.ne_of_gt (blk_lt (g := gb628) (o := .cells #[.int .i64 a0_0, .int .i64 a0_1] 25 (0, 0)) (by (with_reducible repeat (first | refine bkN ?_ _ | refine bkD ?_ | refine bkA ?_ _)); exact BK628.out)) : gb629 ≠ gb628)); clear BK628; clear HB; have BK628 := n0_; have HB := n1_; have BK629 := n2_; have GW629 := n3_; have GE629 := n4_; have NB628_629 := n5_; have NB629_628 := n6_; clear n0_ n1_ n2_ n3_ n4_ n5_ n6_; clear hb hbox hg))
 (try simp only [Act.put, List.setIfInBounds_toArray, List.set_cons_zero, List.set_cons_succ])
 go_cut [31] (fun v31 wc => ∃ (kq : Nat) (x31_2 : Bool), v31 = .bool x31_2 ∧ Az (spec_FlipSlope.j0 kq a1 x31_2 a0_0 a0_1 = some (r1, r2, r3)) ∧ Az (kq ≤ k) ∧ Az (wc.heap[gb628]? = some (.cells #[.int .i64 a0_0, .int .i64 a0_1] 25 (0, 0))) ∧ Az (wc.heap[gb629]? = some (.cells #[.int .i64 0, .int .i64 0] 25 (0, 0))) ∧ Az (Below w.heap.size w wc))
 case first =>
  have H := HC3.out
  clear HC3
  replace H := Option.bind_eq_some_iff.mp H
  obtain ⟨t630, A60, H⟩ := H
  replace H : (if t630 = true then (if a0_0 < 1 then (spec_FlipSlope.j0 k a1 true a0_0 a0_1) else (if a0_1 < 1 then (spec_FlipSlope.j0 k a1 true a0_0 a0_1) else ((spec_l1In.f a1 1 3).bind fun t631 => (spec_FlipSlope.j0 k a1 (!t631) a0_0 a0_1)))) else (spec_FlipSlope.j0 k a1 true a0_0 a0_1)) = some (r1, r2, r3) := H
  have A6 := Az.mk A60
  clear A60
  by_cases c7 : t630 = true
  ·subst c7
   have H1 : (if a0_0 < 1 then (spec_FlipSlope.j0 k a1 true a0_0 a0_1) else (if a0_1 < 1 then (spec_FlipSlope.j0 k a1 true a0_0 a0_1) else ((spec_l1In.f a1 1 3).bind fun t631 => (spec_FlipSlope.j0 k a1 (!t631) a0_0 a0_1)))) = some (r1, r2, r3) := by rw [if_pos rfl] at H; exact H
   clear H
   have H := H1
   clear H1
   by_cases c8 : a0_0 < 1
   ·rw [if_pos c8] at H
    have c8b0 : decide (a0_0 < 1) = true := decide_eq_true c8
    clear c8
    (first | rw [c8b0] | (simp only [i64_w, i32_w]; rw [c8b0]) | skip)
    have H' := Az.mk H
    clear H
    have hnb9 := NB628_629.out
    have hnc9 := NB629_628.out
    have hcz10_0 : w5.cell? ⟨gb628, 0, none⟩ = some (.int .i64 a0_0) := (bkC BK628.out 0).trans rfl
    have hcz10_1 : w5.cell? ⟨gb628, 1, none⟩ = some (.int .i64 a0_1) := (bkC BK628.out 1).trans rfl
    have hfz10_0 := bkF BK628.out 0
    have hfz10_1 := bkF BK628.out 1
    go_wp2_with (first | ((with_reducible refine gtC (f := 33) rfl ?_); refine goesL_ (some 15) rfl rfl Try.func33 (by kernel_rfl) rfl #[.agg #[.int .i64 a0_0, .int .i64 a0_1]] rfl (by (try simp only [List.map_toArray, List.map_cons, List.map_nil]); first | done | rfl | (simp only [List.length_drop, List.length_take]; rfl)) ?_; (with_reducible refine (spec_IsSlope.calls k a0_0 a0_1 true _ A6.out).mono ?_); rintro e w11 ⟨rfl, hb⟩; refine ⟨_, rfl, ?_⟩; have n0_ := Az.mk (bkB (g := gb628) (o := .cells #[.int .i64 a0_0, .int .i64 a0_1] 25 (0, 0)) (by (with_reducible repeat (first | refine bkN ?_ _ | refine bkD ?_ | refine bkA ?_ _)); exact BK628.out) hb); have n1_ := Az.mk (bkB (g := gb629) (o := .cells #[.int .i64 0, .int .i64 0] 25 (0, 0)) (by (with_reducible repeat (first | refine bkN ?_ _ | refine bkD ?_ | refine bkA ?_ _)); exact BK629.out) hb); have n2_ := Az.mk (bwT (by repeat (first | (with_reducible first | exact HB.out | apply bwA | apply pbN | apply bwD | refine bwS ?_ GE628.out | refine bwS ?_ GE629.out) | exact HB.out)) hb); clear BK628; clear BK629; clear HB; have BK628 := n0_; have BK629 := n1_; have HB := n2_; clear n0_ n1_ n2_; (try clear hb); (try clear hb2); (try clear hk); (try clear hi); have hcz12_0 : w11.cell? ⟨gb628, 0, none⟩ = some (.int .i64 a0_0) := (bkC BK628.out 0).trans rfl; have hcz12_1 : w11.cell? ⟨gb628, 1, none⟩ = some (.int .i64 a0_1) := (bkC BK628.out 1).trans rfl; have hfz12_0 := bkF BK628.out 0; have hfz12_1 := bkF BK628.out 1))
    go_meet
    case rel => exact ⟨_, (true), (by first | rfl | (simp; done) | (simp [*]; done)), H', ⟨by first | omega | exact Nat.le_refl _⟩, ⟨by (with_reducible repeat (first | refine bkN ?_ _ | refine bkD ?_ | refine bkA ?_ _)); exact BK628.out⟩, ⟨by (with_reducible repeat (first | refine bkN ?_ _ | refine bkD ?_ | refine bkA ?_ _)); exact BK629.out⟩, ⟨by repeat (first | (with_reducible first | exact HB.out | apply bwA | apply pbN | apply bwD | refine bwS ?_ GE628.out | refine bwS ?_ GE629.out) | exact HB.out)⟩⟩
   ·rw [if_neg c8] at H
    have c8b0 : decide (a0_0 < 1) = false := decide_eq_false c8
    clear c8
    (first | rw [c8b0] | (simp only [i64_w, i32_w]; rw [c8b0]) | skip)
    by_cases c13 : a0_1 < 1
    ·rw [if_pos c13] at H
     have c13b0 : decide (a0_1 < 1) = true := decide_eq_true c13
     clear c13
     have H' := Az.mk H
     clear H
     have hnb14 := NB628_629.out
     have hnc14 := NB629_628.out
     have hcz15_0 : w5.cell? ⟨gb628, 0, none⟩ = some (.int .i64 a0_0) := (bkC BK628.out 0).trans rfl
     have hcz15_1 : w5.cell? ⟨gb628, 1, none⟩ = some (.int .i64 a0_1) := (bkC BK628.out 1).trans rfl
     have hfz15_0 := bkF BK628.out 0
     have hfz15_1 := bkF BK628.out 1
     go_wp2_with (first | ((with_reducible refine gtC (f := 33) rfl ?_); refine goesL_ (some 15) rfl rfl Try.func33 (by kernel_rfl) rfl #[.agg #[.int .i64 a0_0, .int .i64 a0_1]] rfl (by (try simp only [List.map_toArray, List.map_cons, List.map_nil]); first | done | rfl | (simp only [List.length_drop, List.length_take]; rfl)) ?_; (with_reducible refine (spec_IsSlope.calls k a0_0 a0_1 true _ A6.out).mono ?_); rintro e w16 ⟨rfl, hb⟩; refine ⟨_, rfl, ?_⟩; have n0_ := Az.mk (bkB (g := gb628) (o := .cells #[.int .i64 a0_0, .int .i64 a0_1] 25 (0, 0)) (by (with_reducible repeat (first | refine bkN ?_ _ | refine bkD ?_ | refine bkA ?_ _)); exact BK628.out) hb); have n1_ := Az.mk (bkB (g := gb629) (o := .cells #[.int .i64 0, .int .i64 0] 25 (0, 0)) (by (with_reducible repeat (first | refine bkN ?_ _ | refine bkD ?_ | refine bkA ?_ _)); exact BK629.out) hb); have n2_ := Az.mk (bwT (by repeat (first | (with_reducible first | exact HB.out | apply bwA | apply pbN | apply bwD | refine bwS ?_ GE628.out | refine bwS ?_ GE629.out) | exact HB.out)) hb); clear BK628; clear BK629; clear HB; have BK628 := n0_; have BK629 := n1_; have HB := n2_; clear n0_ n1_ n2_; (try clear hb); (try clear hb2); (try clear hk); (try clear hi); have hcz17_0 : w16.cell? ⟨gb628, 0, none⟩ = some (.int .i64 a0_0) := (bkC BK628.out 0).trans rfl; have hcz17_1 : w16.cell? ⟨gb628, 1, none⟩ = some (.int .i64 a0_1) := (bkC BK628.out 1).trans rfl; have hfz17_0 := bkF BK628.out 0; have hfz17_1 := bkF BK628.out 1))
     go_meet
     case rel => exact ⟨_, (true), (by first | rfl | (simp; done) | (simp [*]; done)), H', ⟨by first | omega | exact Nat.le_refl _⟩, ⟨by (with_reducible repeat (first | refine bkN ?_ _ | refine bkD ?_ | refine bkA ?_ _)); exact BK628.out⟩, ⟨by (with_reducible repeat (first | refine bkN ?_ _ | refine bkD ?_ | refine bkA ?_ _)); exact BK629.out⟩, ⟨by repeat (first | (with_reducible first | exact HB.out | apply bwA | apply pbN | apply bwD | refine bwS ?_ GE628.out | refine bwS ?_ GE629.out) | exact HB.out)⟩⟩
    ·rw [if_neg c13] at H
     have c13b0 : decide (a0_1 < 1) = false := decide_eq_false c13
     clear c13
     replace H := Option.bind_eq_some_iff.mp H
     obtain ⟨t631, A180, H⟩ := H
     replace H : (spec_FlipSlope.j0 k a1 (!t631) a0_0 a0_1) = some (r1, r2, r3) := H
     have A18 := Az.mk A180
     clear A180
     have H' := Az.mk H
     clear H
     have hnb19 := NB628_629.out
     have hnc19 := NB629_628.out
     have hcz20_0 : w5.cell? ⟨gb628, 0, none⟩ = some (.int .i64 a0_0) := (bkC BK628.out 0).trans rfl
     have hcz20_1 : w5.cell? ⟨gb628, 1, none⟩ = some (.int .i64 a0_1) := (bkC BK628.out 1).trans rfl
     have hfz20_0 := bkF BK628.out 0
     have hfz20_1 := bkF BK628.out 1
     go_wp2_with (first | ((with_reducible refine gtC (f := 33) rfl ?_); refine goesL_ (some 15) rfl rfl Try.func33 (by kernel_rfl) rfl #[.agg #[.int .i64 a0_0, .int .i64 a0_1]] rfl (by (try simp only [List.map_toArray, List.map_cons, List.map_nil]); first | done | rfl | (simp only [List.length_drop, List.length_take]; rfl)) ?_; (with_reducible refine (spec_IsSlope.calls k a0_0 a0_1 true _ A6.out).mono ?_); rintro e w21 ⟨rfl, hb⟩; refine ⟨_, rfl, ?_⟩; have n0_ := Az.mk (bkB (g := gb628) (o := .cells #[.int .i64 a0_0, .int .i64 a0_1] 25 (0, 0)) (by (with_reducible repeat (first | refine bkN ?_ _ | refine bkD ?_ | refine bkA ?_ _)); exact BK628.out) hb); have n1_ := Az.mk (bkB (g := gb629) (o := .cells #[.int .i64 0, .int .i64 0] 25 (0, 0)) (by (with_reducible repeat (first | refine bkN ?_ _ | refine bkD ?_ | refine bkA ?_ _)); exact BK629.out) hb); have n2_ := Az.mk (bwT (by repeat (first | (with_reducible first | exact HB.out | apply bwA | apply pbN | apply bwD | refine bwS ?_ GE628.out | refine bwS ?_ GE629.out) | exact HB.out)) hb); clear BK628; clear BK629; clear HB; have BK628 := n0_; have BK629 := n1_; have HB := n2_; clear n0_ n1_ n2_; (try clear hb); (try clear hb2); (try clear hk); (try clear hi); have hcz22_0 : w21.cell? ⟨gb628, 0, none⟩ = some (.int .i64 a0_0) := (bkC BK628.out 0).trans rfl; have hcz22_1 : w21.cell? ⟨gb628, 1, none⟩ = some (.int .i64 a0_1) := (bkC BK628.out 1).trans rfl; have hfz22_0 := bkF BK628.out 0; have hfz22_1 := bkF BK628.out 1) | (go_at_call 47; (with_reducible refine (spec_l1In.calls a1 1 3 t631 _ A18.out).mono ?_); rintro e w' ⟨rfl, ⟨nd, rfl⟩⟩))
     go_meet
     case rel => exact ⟨_, (!t631), (by first | rfl | (simp; done) | (simp [*]; done)), H', ⟨by first | omega | exact Nat.le_refl _⟩, ⟨by (with_reducible repeat (first | refine bkN ?_ _ | refine bkD ?_ | refine bkA ?_ _)); exact BK628.out⟩, ⟨by (with_reducible repeat (first | refine bkN ?_ _ | refine bkD ?_ | refine bkA ?_ _)); exact BK629.out⟩, ⟨by repeat (first | (with_reducible first | exact HB.out | apply bwA | apply pbN | apply bwD | refine bwS ?_ GE628.out | refine bwS ?_ GE629.out) | exact HB.out)⟩⟩
  ·replace c7 := Bool.eq_false_iff.mpr c7
   subst c7
   have H1 : (spec_FlipSlope.j0 k a1 true a0_0 a0_1) = some (r1, r2, r3) := by rw [if_neg (show ¬ (false = true) by decide)] at H; exact H
   clear H
   have H := H1
   clear H1
   have H' := Az.mk H
   clear H
   have hnb23 := NB628_629.out
   have hnc23 := NB629_628.out
   have hcz24_0 : w5.cell? ⟨gb628, 0, none⟩ = some (.int .i64 a0_0) := (bkC BK628.out 0).trans rfl
   have hcz24_1 : w5.cell? ⟨gb628, 1, none⟩ = some (.int .i64 a0_1) := (bkC BK628.out 1).trans rfl
   have hfz24_0 := bkF BK628.out 0
   have hfz24_1 := bkF BK628.out 1
   go_wp2_with (first | ((with_reducible refine gtC (f := 33) rfl ?_); refine goesL_ (some 15) rfl rfl Try.func33 (by kernel_rfl) rfl #[.agg #[.int .i64 a0_0, .int .i64 a0_1]] rfl (by (try simp only [List.map_toArray, List.map_cons, List.map_nil]); first | done | rfl | (simp only [List.length_drop, List.length_take]; rfl)) ?_; (with_reducible refine (spec_IsSlope.calls k a0_0 a0_1 false _ A6.out).mono ?_); rintro e w25 ⟨rfl, hb⟩; refine ⟨_, rfl, ?_⟩; have n0_ := Az.mk (bkB (g := gb628) (o := .cells #[.int .i64 a0_0, .int .i64 a0_1] 25 (0, 0)) (by (with_reducible repeat (first | refine bkN ?_ _ | refine bkD ?_ | refine bkA ?_ _)); exact BK628.out) hb); have n1_ := Az.mk (bkB (g := gb629) (o := .cells #[.int .i64 0, .int .i64 0] 25 (0, 0)) (by (with_reducible repeat (first | refine bkN ?_ _ | refine bkD ?_ | refine bkA ?_ _)); exact BK629.out) hb); have n2_ := Az.mk (bwT (by repeat (first | (with_reducible first | exact HB.out | apply bwA | apply pbN | apply bwD | refine bwS ?_ GE628.out | refine bwS ?_ GE629.out) | exact HB.out)) hb); clear BK628; clear BK629; clear HB; have BK628 := n0_; have BK629 := n1_; have HB := n2_; clear n0_ n1_ n2_; (try clear hb); (try clear hb2); (try clear hk); (try clear hi)))
   go_meet
   case rel => exact ⟨_, (true), (by first | rfl | (simp; done) | (simp [*]; done)), H', ⟨by first | omega | exact Nat.le_refl _⟩, ⟨by (with_reducible repeat (first | refine bkN ?_ _ | refine bkD ?_ | refine bkA ?_ _)); exact BK628.out⟩, ⟨by (with_reducible repeat (first | refine bkN ?_ _ | refine bkD ?_ | refine bkA ?_ _)); exact BK629.out⟩, ⟨by repeat (first | (with_reducible first | exact HB.out | apply bwA | apply pbN | apply bwD | refine bwS ?_ GE628.out | refine bwS ?_ GE629.out) | exact HB.out)⟩⟩
 case rest =>
  clear HC3
  try clear c1
  try clear c2
  try clear p2
  try clear c3
  try clear c7
  try clear c8
  try clear c8b0
  try clear c9
  try clear c13
  try clear c13b0
  try clear c14
  try clear c19
  try clear c23
  try clear hcz10_0
  try clear hcz10_1
  try clear hcz12_0
  try clear hcz12_1
  try clear hcz15_0
  try clear hcz15_1
  try clear hcz17_0
  try clear hcz17_1
  try clear hcz20_0
  try clear hcz20_1
  try clear hcz22_0
  try clear hcz22_1
  try clear hcz24_0
  try clear hcz24_1
  try clear hfz10_0
  try clear hfz10_1
  try clear hfz12_0
  try clear hfz12_1
  try clear hfz15_0
  try clear hfz15_1
  try clear hfz17_0
  try clear hfz17_1
  try clear hfz20_0
  try clear hfz20_1
  try clear hfz22_0
  try clear hfz22_1
  try clear hfz24_0
  try clear hfz24_1
  obtain ⟨kq, x31_2, rfl, HA, HJ2, BK628, BK629, HB⟩ := hcut
  cases kq with
  | zero => exact absurd HA.out (by simp [spec_FlipSlope.j0])
  | succ kj2 =>
   have H := HA.out
   clear HA
   simp only [spec_FlipSlope.j0] at H
   by_cases c26 : x31_2 = true
   ·subst c26
    have H1 : (some (0, 0, false)) = some (r1, r2, r3) := by rw [if_pos rfl] at H; exact H
    clear H
    have H := H1
    clear H1
    simp only [Option.some.injEq, Prod.mk.injEq] at H
    obtain ⟨rfl, rfl, rfl⟩ := H
    have hnb27 := NB629_628.out
    have hnc27 := NB628_629.out
    have hcz28_0 : wc.cell? ⟨gb629, 0, none⟩ = some (.int .i64 0) := (bkC BK629.out 0).trans rfl
    have hcz28_1 : wc.cell? ⟨gb629, 1, none⟩ = some (.int .i64 0) := (bkC BK629.out 1).trans rfl
    have hfz28_0 := bkF BK629.out 0
    have hfz28_1 := bkF BK629.out 1
    go_wp2
    refine bodyPost_ret (results_ct rfl _ _ gb629 25 #[.int .i64 0, .int .i64 0] (0, 0) _ rfl (by (with_reducible repeat (first | refine bkN ?_ _ | refine bkD ?_ | refine bkA ?_ _)); refine bkp (cs := #[.int .i64 0, .int .i64 0]) ?_ 1 _ rfl; (with_reducible repeat (first | refine bkN ?_ _ | refine bkD ?_ | refine bkA ?_ _)); refine bkp (cs := #[.int .i64 0, .int .i64 0]) ?_ 0 _ rfl; (with_reducible repeat (first | refine bkN ?_ _ | refine bkD ?_ | refine bkA ?_ _)); exact BK629.out) Try.underlying25 rfl (by kernel_rfl)) rfl ?_
    exact ⟨by first | rfl | (simp [eWn, eWs] <;> rfl) | (simp [*, eWn, eWs] <;> rfl), by repeat (first | (with_reducible first | exact HB.out | apply bwA | apply pbN | apply bwD | refine bwS ?_ GE628.out | refine bwS ?_ GE629.out) | exact HB.out)⟩
   ·replace c26 := Bool.eq_false_iff.mpr c26
    subst c26
    have H1 : ((spec_TurnsTo.f kj2 a0_0 a0_1).bind fun t632 => ((spec_TurnsOf.f kj2 t632).bind fun bt633 => (if bt633.2.2.2.2 = true then (spec_FlipSlope.l0 kj2 a1 (([] : List (S25))) 1 bt633.1 bt633.2.1 bt633.2.2.1 bt633.2.2.2.1) else (some (0, 0, false))))) = some (r1, r2, r3) := by rw [if_neg (show ¬ (false = true) by decide)] at H; exact H
    clear H
    have H := H1
    clear H1
    replace H := Option.bind_eq_some_iff.mp H
    obtain ⟨t632, A290, H⟩ := H
    replace H : ((spec_TurnsOf.f kj2 t632).bind fun bt633 => (if bt633.2.2.2.2 = true then (spec_FlipSlope.l0 kj2 a1 (([] : List (S25))) 1 bt633.1 bt633.2.1 bt633.2.2.1 bt633.2.2.2.1) else (some (0, 0, false)))) = some (r1, r2, r3) := H
    have A29 := Az.mk A290
    clear A290
    replace H := Option.bind_eq_some_iff.mp H
    obtain ⟨⟨t633, t634, t635, t636, t637⟩, A300, H⟩ := H
    replace H : (if t637 = true then (spec_FlipSlope.l0 kj2 a1 (([] : List (S25))) 1 t633 t634 t635 t636) else (some (0, 0, false))) = some (r1, r2, r3) := H
    have A30 := Az.mk A300
    clear A300
    by_cases c31 : t637 = true
    ·subst c31
     have H1 : (spec_FlipSlope.l0 kj2 a1 (([] : List (S25))) 1 t633 t634 t635 t636) = some (r1, r2, r3) := by rw [if_pos rfl] at H; exact H
     clear H
     have H := H1
     clear H1
     obtain ⟨y639, hy639⟩ : ∃ y_ : List (S25), y_ = (([] : List (S25))) := ⟨_, rfl⟩
     replace H : (spec_FlipSlope.l0 kj2 a1 y639 1 t633 t634 t635 t636) = some (r1, r2, r3) := by first | (rw [hy639]; with_reducible exact H) | (have H2_ := (Option.bind_some _ _).symm.trans H; rw [hy639]; with_reducible exact H2_) | (have H2_ := (Option.bind_some _ _).symm.trans H; with_reducible exact H2_) | with_reducible exact H | (rw [hy639]; exact H) | exact H
     have Ny639 := Az.mk hy639
     clear hy639
     have H' := Az.mk H
     clear H
     have hnb32 := NB628_629.out
     have hnc32 := NB629_628.out
     have hcz33_0 : wc.cell? ⟨gb628, 0, none⟩ = some (.int .i64 a0_0) := (bkC BK628.out 0).trans rfl
     have hcz33_1 : wc.cell? ⟨gb628, 1, none⟩ = some (.int .i64 a0_1) := (bkC BK628.out 1).trans rfl
     have hfz33_0 := bkF BK628.out 0
     have hfz33_1 := bkF BK628.out 1
     go_wp2_with (first | ((with_reducible refine gtC (f := 67) rfl ?_); refine goesL_ (some 35) rfl rfl Try.func67 (by kernel_rfl) rfl #[.agg #[.int .i64 a0_0, .int .i64 a0_1]] rfl (by (try simp only [List.map_toArray, List.map_cons, List.map_nil]); first | done | rfl | (simp only [List.length_drop, List.length_take]; rfl)) ?_; (with_reducible refine (spec_TurnsTo.calls kj2 a0_0 a0_1 t632 _ A29.out).mono ?_); rintro e w34 ⟨rfl, hb⟩; refine ⟨_, rfl, ?_⟩; have n0_ := Az.mk (bkB (g := gb628) (o := .cells #[.int .i64 a0_0, .int .i64 a0_1] 25 (0, 0)) (by (with_reducible repeat (first | refine bkN ?_ _ | refine bkD ?_ | refine bkA ?_ _)); exact BK628.out) hb); have n1_ := Az.mk (bkB (g := gb629) (o := .cells #[.int .i64 0, .int .i64 0] 25 (0, 0)) (by (with_reducible repeat (first | refine bkN ?_ _ | refine bkD ?_ | refine bkA ?_ _)); exact BK629.out) hb); have n2_ := Az.mk (bwT (by repeat (first | (with_reducible first | exact HB.out | apply bwA | apply pbN | apply bwD | refine bwS ?_ GE628.out | refine bwS ?_ GE629.out) | exact HB.out)) hb); clear BK628; clear BK629; clear HB; have BK628 := n0_; have BK629 := n1_; have HB := n2_; clear n0_ n1_ n2_; (try clear hb); (try clear hb2); (try clear hk); (try clear hi)) | ((with_reducible refine gtC (f := 66) rfl ?_); refine goesL_ (some 36) rfl rfl Try.func66 (by kernel_rfl) rfl #[.string t632] rfl (by (try simp only [List.map_toArray, List.map_cons, List.map_nil]); first | done | rfl | (simp only [List.length_drop, List.length_take]; rfl)) ?_; (with_reducible refine (spec_TurnsOf.calls kj2 t632 t633 t634 t635 t636 true _ A30.out).mono ?_); rintro e w35 ⟨rfl, hb⟩; refine ⟨_, rfl, ?_⟩; have n0_ := Az.mk (bkB (g := gb628) (o := .cells #[.int .i64 a0_0, .int .i64 a0_1] 25 (0, 0)) (by (with_reducible repeat (first | refine bkN ?_ _ | refine bkD ?_ | refine bkA ?_ _)); exact BK628.out) hb); have n1_ := Az.mk (bkB (g := gb629) (o := .cells #[.int .i64 0, .int .i64 0] 25 (0, 0)) (by (with_reducible repeat (first | refine bkN ?_ _ | refine bkD ?_ | refine bkA ?_ _)); exact BK629.out) hb); have n2_ := Az.mk (bwT (by repeat (first | (with_reducible first | exact HB.out | apply bwA | apply pbN | apply bwD | refine bwS ?_ GE628.out | refine bwS ?_ GE629.out) | exact HB.out)) hb); clear BK628; clear BK629; clear HB; have BK628 := n0_; have BK629 := n1_; have HB := n2_; clear n0_ n1_ n2_; (try clear hb); (try clear hb2); (try clear hk); (try clear hi)) | ((with_reducible refine gtD (N := 6) rfl ?_); refine bxE ?hg (N := 6) ?hd (cs := #[.int .i64 0, .int .i64 0, .int .i64 0, .int .i64 0]) (t := 46) ?hr ?_; (case hd => rfl); (case hg => rfl); (case hr => first | (go_simp; done) | (go_simp; rfl)); intro gb638 hg w36 hbox hb; have n0_ := Az.mk (bkB (g := gb628) (o := .cells #[.int .i64 a0_0, .int .i64 a0_1] 25 (0, 0)) (by (with_reducible repeat (first | refine bkN ?_ _ | refine bkD ?_ | refine bkA ?_ _)); exact BK628.out) hb); have n1_ := Az.mk (bkB (g := gb629) (o := .cells #[.int .i64 0, .int .i64 0] 25 (0, 0)) (by (with_reducible repeat (first | refine bkN ?_ _ | refine bkD ?_ | refine bkA ?_ _)); exact BK629.out) hb); have n2_ := Az.mk (bwT (by repeat (first | (with_reducible first | exact HB.out | apply bwA | apply pbN | apply bwD | refine bwS ?_ GE628.out | refine bwS ?_ GE629.out) | exact HB.out)) hb); have n3_ := Az.mk (hbox); have n4_ := Az.mk ((by rw [hg]; exact (bwZ (by repeat (first | (with_reducible first | exact HB.out | apply bwA | apply pbN | apply bwD | refine bwS ?_ GE628.out | refine bwS ?_ GE629.out) | exact HB.out))) : w.heap.size ≤ gb638)); have n5_ := Az.mk ((by rw [hg]; exact (bwZ (by repeat (first | (with_reducible first | exact HB.out | apply bwA | apply pbN | apply bwD | refine bwS ?_ GE628.out | refine bwS ?_ GE629.out) | exact HB.out))) : w.heap.size ≤ gb638)); have n6_ := Az.mk ((by rw [hg]; exact Nat.ne_of_lt (blk_lt (g := gb628) (o := .cells #[.int .i64 a0_0, .int .i64 a0_1] 25 (0, 0)) (by (with_reducible repeat (first | refine bkN ?_ _ | refine bkD ?_ | refine bkA ?_ _)); exact BK628.out)) : gb628 ≠ gb638)); have n7_ := Az.mk ((by rw [hg]; exact Nat.ne_of_gt (blk_lt (g := gb628) (o := .cells #[.int .i64 a0_0, .int .i64 a0_1] 25 (0, 0)) (by (with_reducible repeat (first | refine bkN ?_ _ | refine bkD ?_ | refine bkA ?_ _)); exact BK628.out)) : gb638 ≠ gb628)); have n8_ := Az.mk ((by rw [hg]; exact Nat.ne_of_lt (blk_lt (g := gb629) (o := .cells #[.int .i64 0, .int .i64 0] 25 (0, 0)) (by (with_reducible repeat (first | refine bkN ?_ _ | refine bkD ?_ | refine bkA ?_ _)); exact BK629.out)) : gb629 ≠ gb638)); have n9_ := Az.mk ((by rw [hg]; exact Nat.ne_of_gt (blk_lt (g := gb629) (o := .cells #[.int .i64 0, .int .i64 0] 25 (0, 0)) (by (with_reducible repeat (first | refine bkN ?_ _ | refine bkD ?_ | refine bkA ?_ _)); exact BK629.out)) : gb638 ≠ gb629)); clear BK628; clear BK629; clear HB; have BK628 := n0_; have BK629 := n1_; have HB := n2_; have BK638 := n3_; have GW638 := n4_; have GE638 := n5_; have NB628_638 := n6_; have NB638_628 := n7_; have NB629_638 := n8_; have NB638_629 := n9_; clear n0_ n1_ n2_ n3_ n4_ n5_ n6_ n7_ n8_ n9_; clear hb hbox hg; have hnb37 := NB638_628.out; have hnc37 := NB628_638.out; have hnb38 := NB638_629.out; have hnc38 := NB629_638.out; have hcz39_0 : w36.cell? ⟨gb638, 0, none⟩ = some (.int .i64 0) := (bkC BK638.out 0).trans rfl; have hcz39_1 : w36.cell? ⟨gb638, 1, none⟩ = some (.int .i64 0) := (bkC BK638.out 1).trans rfl; have hcz39_2 : w36.cell? ⟨gb638, 2, none⟩ = some (.int .i64 0) := (bkC BK638.out 2).trans rfl; have hcz39_3 : w36.cell? ⟨gb638, 3, none⟩ = some (.int .i64 0) := (bkC BK638.out 3).trans rfl; have hfz39_0 := bkF BK638.out 0; have hfz39_1 := bkF BK638.out 1; have hfz39_2 := bkF BK638.out 2; have hfz39_3 := bkF BK638.out 3) | ((with_reducible refine gtD (N := 42) rfl ?_); refine Kd.R_lit k25 _ 25 ?hg (N := 42) ?hd (xs := ([] : List (S25))) (inner := []) (ok := fun _ => True) (okp := fun _ => True) ?hr ?hp (fun _ hk => hk) trivial (Below.refl _ _) (Nat.le_refl _) (by simp) ?_; (case hd => rfl); (case hg => rfl); (case hr => first | (go_simp; done) | (go_simp; rfl)); (case hp => exact (Reps.none _ _)); intro v640 w40 ho41 hb hg_ hnew_; clear hg_ hnew_; (first | rw [← Ny639.out] at ho41 | (simp only [Int.reduceToNat] at ho41; rw [← Ny639.out] at ho41)); have n0_ := Az.mk (Kd.R_lower (Kd.R_newB (Kd.R_newB ho41 (g := gb628) (o := .cells #[.int .i64 a0_0, .int .i64 a0_1] 25 (0, 0)) (by (with_reducible repeat (first | refine bkN ?_ _ | refine bkD ?_ | refine bkA ?_ _)); refine bkf ?_ NB628_638.out _; (with_reducible repeat (first | refine bkN ?_ _ | refine bkD ?_ | refine bkA ?_ _)); refine bkf ?_ NB628_638.out _; (with_reducible repeat (first | refine bkN ?_ _ | refine bkD ?_ | refine bkA ?_ _)); refine bkf ?_ NB628_638.out _; (with_reducible repeat (first | refine bkN ?_ _ | refine bkD ?_ | refine bkA ?_ _)); refine bkf ?_ NB628_638.out _; (with_reducible repeat (first | refine bkN ?_ _ | refine bkD ?_ | refine bkA ?_ _)); exact BK628.out)) (g := gb629) (o := .cells #[.int .i64 0, .int .i64 0] 25 (0, 0)) (by (with_reducible repeat (first | refine bkN ?_ _ | refine bkD ?_ | refine bkA ?_ _)); refine bkf ?_ NB629_638.out _; (with_reducible repeat (first | refine bkN ?_ _ | refine bkD ?_ | refine bkA ?_ _)); refine bkf ?_ NB629_638.out _; (with_reducible repeat (first | refine bkN ?_ _ | refine bkD ?_ | refine bkA ?_ _)); refine bkf ?_ NB629_638.out _; (with_reducible repeat (first | refine bkN ?_ _ | refine bkD ?_ | refine bkA ?_ _)); refine bkf ?_ NB629_638.out _; (with_reducible repeat (first | refine bkN ?_ _ | refine bkD ?_ | refine bkA ?_ _)); exact BK629.out)) (bwZ (by repeat (first | (with_reducible first | exact HB.out | apply bwA | apply pbN | apply bwD | refine bwS ?_ GE628.out | refine bwS ?_ GE629.out | refine bwS ?_ GE638.out) | exact HB.out)))); have n1_ := Az.mk (bkB (g := gb628) (o := .cells #[.int .i64 a0_0, .int .i64 a0_1] 25 (0, 0)) (by (with_reducible repeat (first | refine bkN ?_ _ | refine bkD ?_ | refine bkA ?_ _)); refine bkf ?_ NB628_638.out _; (with_reducible repeat (first | refine bkN ?_ _ | refine bkD ?_ | refine bkA ?_ _)); refine bkf ?_ NB628_638.out _; (with_reducible repeat (first | refine bkN ?_ _ | refine bkD ?_ | refine bkA ?_ _)); refine bkf ?_ NB628_638.out _; (with_reducible repeat (first | refine bkN ?_ _ | refine bkD ?_ | refine bkA ?_ _)); refine bkf ?_ NB628_638.out _; (with_reducible repeat (first | refine bkN ?_ _ | refine bkD ?_ | refine bkA ?_ _)); exact BK628.out) hb); have n2_ := Az.mk (bkB (g := gb629) (o := .cells #[.int .i64 0, .int .i64 0] 25 (0, 0)) (by (with_reducible repeat (first | refine bkN ?_ _ | refine bkD ?_ | refine bkA ?_ _)); refine bkf ?_ NB629_638.out _; (with_reducible repeat (first | refine bkN ?_ _ | refine bkD ?_ | refine bkA ?_ _)); refine bkf ?_ NB629_638.out _; (with_reducible repeat (first | refine bkN ?_ _ | refine bkD ?_ | refine bkA ?_ _)); refine bkf ?_ NB629_638.out _; (with_reducible repeat (first | refine bkN ?_ _ | refine bkD ?_ | refine bkA ?_ _)); refine bkf ?_ NB629_638.out _; (with_reducible repeat (first | refine bkN ?_ _ | refine bkD ?_ | refine bkA ?_ _)); exact BK629.out) hb); have n3_ := Az.mk (bkB (g := gb638) (o := .cells #[.int .i64 t633, .int .i64 t634, .int .i64 t635, .int .i64 t636] 46 (0, 0)) (by (with_reducible repeat (first | refine bkN ?_ _ | refine bkD ?_ | refine bkA ?_ _)); refine bkp (cs := #[.int .i64 t633, .int .i64 t634, .int .i64 t635, .int .i64 0]) ?_ 3 _ rfl; (with_reducible repeat (first | refine bkN ?_ _ | refine bkD ?_ | refine bkA ?_ _)); refine bkp (cs := #[.int .i64 t633, .int .i64 t634, .int .i64 0, .int .i64 0]) ?_ 2 _ rfl; (with_reducible repeat (first | refine bkN ?_ _ | refine bkD ?_ | refine bkA ?_ _)); refine bkp (cs := #[.int .i64 t633, .int .i64 0, .int .i64 0, .int .i64 0]) ?_ 1 _ rfl; (with_reducible repeat (first | refine bkN ?_ _ | refine bkD ?_ | refine bkA ?_ _)); refine bkp (cs := #[.int .i64 0, .int .i64 0, .int .i64 0, .int .i64 0]) ?_ 0 _ rfl; (with_reducible repeat (first | refine bkN ?_ _ | refine bkD ?_ | refine bkA ?_ _)); exact BK638.out) hb); have n4_ := Az.mk (bwT (by repeat (first | (with_reducible first | exact HB.out | apply bwA | apply pbN | apply bwD | refine bwS ?_ GE628.out | refine bwS ?_ GE629.out | refine bwS ?_ GE638.out) | exact HB.out)) hb); clear BK628; clear BK629; clear BK638; clear HB; have HO641 := n0_; have BK628 := n1_; have BK629 := n2_; have BK638 := n3_; have HB := n4_; clear n0_ n1_ n2_ n3_ n4_; clear hb ho41))
     go_loopg [8, 9] kj2 (fun kq v8 v9 w' => ∃ (x8_2 : List (S25)) (x9_2 : Int) (x630000_2 : Int) (x630001_2 : Int), v9 = .int .i64 x9_2 ∧ Az (spec_FlipSlope.l0 kq a1 x8_2 x9_2 t633 t634 t635 t636 = some (r1, r2, r3)) ∧ Az (kq ≤ kj2) ∧ Az (Kd.R k25 25 w' w.heap.size (fun k_ => k_ ≠ gb628 ∧ k_ ≠ gb629) v8 x8_2) ∧ Az (w'.heap[gb628]? = some (.cells #[.int .i64 a0_0, .int .i64 a0_1] 25 (0, 0))) ∧ Az (w'.heap[gb629]? = some (.cells #[.int .i64 x630000_2, .int .i64 x630001_2] 25 (0, 0))) ∧ Az (w'.heap[gb638]? = some (.cells #[.int .i64 t633, .int .i64 t634, .int .i64 t635, .int .i64 t636] 46 (0, 0))) ∧ Az (Below w.heap.size w w'))
     case atStart => exact ⟨(y639), (1), (0), (0), (by first | rfl | (simp; done) | (simp [*]; done)), H', ⟨Nat.le_refl _⟩, ⟨by (with_reducible repeat (first | apply Kd.R_alloc | apply Kd.R_drewN | apply Kd.R_drew)); exact Kd.R_mono HO641.out (fun _ hk => ⟨hk.1.2, hk.2⟩)⟩, ⟨by (with_reducible repeat (first | refine bkN ?_ _ | refine bkD ?_ | refine bkA ?_ _)); exact BK628.out⟩, ⟨by (with_reducible repeat (first | refine bkN ?_ _ | refine bkD ?_ | refine bkA ?_ _)); exact BK629.out⟩, ⟨by (with_reducible repeat (first | refine bkN ?_ _ | refine bkD ?_ | refine bkA ?_ _)); exact BK638.out⟩, ⟨by repeat (first | (with_reducible first | exact HB.out | apply bwA | apply pbN | apply bwD | refine bwS ?_ GE628.out | refine bwS ?_ GE629.out | refine bwS ?_ GE638.out) | exact HB.out)⟩⟩
     case round =>
      clear H'
      try clear c1
      try clear c2
      try clear p2
      try clear c3
      try clear c6
      try clear c7
      try clear c8
      try clear c8b0
      try clear c9
      try clear c13
      try clear c13b0
      try clear c14
      try clear c19
      try clear c23
      try clear c26
      try clear c27
      try clear c31
      try clear c32
      try clear c33
      try clear c35
      try clear c37
      try clear c38
      try clear hcz10_0
      try clear hcz10_1
      try clear hcz12_0
      try clear hcz12_1
      try clear hcz15_0
      try clear hcz15_1
      try clear hcz17_0
      try clear hcz17_1
      try clear hcz20_0
      try clear hcz20_1
      try clear hcz22_0
      try clear hcz22_1
      try clear hcz24_0
      try clear hcz24_1
      try clear hcz28_0
      try clear hcz28_1
      try clear hcz33_0
      try clear hcz33_1
      try clear hcz39_0
      try clear hcz39_1
      try clear hcz39_2
      try clear hcz39_3
      try clear hfz10_0
      try clear hfz10_1
      try clear hfz12_0
      try clear hfz12_1
      try clear hfz15_0
      try clear hfz15_1
      try clear hfz17_0
      try clear hfz17_1
      try clear hfz20_0
      try clear hfz20_1
      try clear hfz22_0
      try clear hfz22_1
      try clear hfz24_0
      try clear hfz24_1
      try clear hfz28_0
      try clear hfz28_1
      try clear hfz33_0
      try clear hfz33_1
      try clear hfz39_0
      try clear hfz39_1
      try clear hfz39_2
      try clear hfz39_3
      try clear p2
      obtain ⟨x8_2, x9_2, x630000_2, x630001_2, rfl, HA, HK2, HO_8, BK628, BK629, BK638, HB⟩ := hrel
      cases gk with
      | zero => exact absurd HA.out (by simp [spec_FlipSlope.l0])
      | succ k2 =>
       have H := HA.out
       clear HA
       simp only [spec_FlipSlope.l0] at H
       by_cases c42 : x9_2 ≤ 3
       ·rw [if_pos c42] at H
        have c42b0 : decide (x9_2 ≤ 3) = true := decide_eq_true c42
        clear c42
        replace H := Option.bind_eq_some_iff.mp H
        obtain ⟨⟨t642, t643⟩, A430, H⟩ := H
        replace H : ((spec_MoveSlope.f k2 t633 t634 t635 t636 t642 t643).bind fun bt644 => (if bt644.2.2 = true then (if x8_2.length < 8796093022208 then (spec_FlipSlope.l0 k2 a1 (x8_2 ++ [(⟨bt644.1, bt644.2.1⟩ : S25)]) (wrap64 (x9_2 + 1)) t633 t634 t635 t636) else (none)) else (some (0, 0, false)))) = some (r1, r2, r3) := H
        have A43 := Az.mk A430
        clear A430
        replace H := Option.bind_eq_some_iff.mp H
        obtain ⟨⟨t644, t645, t646⟩, A440, H⟩ := H
        replace H : (if t646 = true then (if x8_2.length < 8796093022208 then (spec_FlipSlope.l0 k2 a1 (x8_2 ++ [(⟨t644, t645⟩ : S25)]) (wrap64 (x9_2 + 1)) t633 t634 t635 t636) else (none)) else (some (0, 0, false))) = some (r1, r2, r3) := H
        have A44 := Az.mk A440
        clear A440
        by_cases c45 : t646 = true
        ·subst c45
         have H1 : (if x8_2.length < 8796093022208 then (spec_FlipSlope.l0 k2 a1 (x8_2 ++ [(⟨t644, t645⟩ : S25)]) (wrap64 (x9_2 + 1)) t633 t634 t635 t636) else (none)) = some (r1, r2, r3) := by rw [if_pos rfl] at H; exact H
         clear H
         have H := H1
         clear H1
         by_cases c46 : x8_2.length < 8796093022208
         ·rw [if_pos c46] at H
          have LMc46 := Az.mk c46
          clear c46
          obtain ⟨y648, hy648⟩ : ∃ y_ : List (S25), y_ = (x8_2 ++ [(⟨t644, t645⟩ : S25)]) := ⟨_, rfl⟩
          replace H : (spec_FlipSlope.l0 k2 a1 y648 (wrap64 (x9_2 + 1)) t633 t634 t635 t636) = some (r1, r2, r3) := by first | (rw [hy648]; with_reducible exact H) | (have H2_ := (Option.bind_some _ _).symm.trans H; rw [hy648]; with_reducible exact H2_) | (have H2_ := (Option.bind_some _ _).symm.trans H; with_reducible exact H2_) | with_reducible exact H | (rw [hy648]; exact H) | exact H
          have Ny648 := Az.mk hy648
          clear hy648
          have H' := Az.mk H
          clear H
          try go_wp2
          have n0_ := Az.mk (Kd.R_drew HO_8.out)
          have n1_ := Az.mk (bkD BK628.out)
          have n2_ := Az.mk (bkD BK629.out)
          have n3_ := Az.mk (bkD BK638.out)
          have n4_ := Az.mk (bwD HB.out)
          clear HO_8
          clear BK628
          clear BK629
          clear BK638
          clear HB
          have HO_8 := n0_
          have BK628 := n1_
          have BK629 := n2_
          have BK638 := n3_
          have HB := n4_
          clear n0_ n1_ n2_ n3_ n4_
          refine start_ (n := 10) (S := fun w' => w'.cell? ⟨gb638, 0, none⟩ = some (.int .i64 t633) ∧ w'.cell? ⟨gb638, 1, none⟩ = some (.int .i64 t634) ∧ w'.cell? ⟨gb638, 2, none⟩ = some (.int .i64 t635) ∧ w'.cell? ⟨gb638, 3, none⟩ = some (.int .i64 t636)) (ds := []) #[false, false, false, false, false, false, false, false, false, false] (by kernel_rfl) rfl rfl ⟨(bkC BK638.out 0).trans rfl, (bkC BK638.out 1).trans rfl, (bkC BK638.out 2).trans rfl, (bkC BK638.out 3).trans rfl⟩ (fun hHeld => ?_); refine with_tabW spec_FlipSlope.tab10 spec_FlipSlope.bits10 (fun HT_ HW_ => ?_)
          generalize wr.drew = w47 at HO_8 BK628 BK629 BK638 HB hHeld ⊢
          refine pure_ (i := 1) (N := some 49) (v := ?_) (a' := ?_) #[false, true, false, false, false, false, false, false, false, false] rfl rfl (any_of HT_.out (by kernel_rfl)) (fun _ _ _ h => h) (Or.inl ⟨by rfl, ?_⟩) ?_ ?_
          rotate_left
          ·intro w'
           go_simp
           with_reducible rfl
          rotate_left
          ·simp only [Act.put, List.setIfInBounds_toArray, List.set_cons_zero, List.set_cons_succ, i64_w, i32_w]
           rfl
          refine take_ (i := 0) (N := some 48) (v := ?_) (a' := ?_) #[true, true, false, false, false, false, false, false, false, false] rfl rfl (take_ofW HT_.out HW_.out (by kernel_rfl)) (fun _ _ _ h => h) (Or.inl ⟨by rfl, ?_⟩) hHeld ?_ ?_
          rotate_left
          ·rintro w' ⟨s0, s1, s2, s3⟩
           go_simp
           with_reducible rfl
          rotate_left
          ·simp only [Act.put, List.setIfInBounds_toArray, List.set_cons_zero, List.set_cons_succ, i64_w, i32_w]
           rfl
          refine join_ (σ := Nat) 2 #[true, true, true, true, true, true, true, true, false, false] (fun s_ => [(50, .agg #[.int .i64 t642, .int .i64 t643]), (51, .tuple #[.agg #[.int .i64 t644, .int .i64 t645], .bool true]), (10, .pointer (some ⟨s_, 0, none⟩)), (47, .tuple #[.agg #[.int .i64 t644, .int .i64 t645], .bool true]), (52, .agg #[.int .i64 t644, .int .i64 t645]), (53, .bool true)]) (fun s_ w' => (w'.cell? ⟨gb638, 0, none⟩ = some (.int .i64 t633) ∧ w'.cell? ⟨gb638, 1, none⟩ = some (.int .i64 t634) ∧ w'.cell? ⟨gb638, 2, none⟩ = some (.int .i64 t635) ∧ w'.cell? ⟨gb638, 3, none⟩ = some (.int .i64 t636)) ∧ (Kd.R k25 25 w' w.heap.size (fun k_ => k_ ≠ gb628 ∧ k_ ≠ gb629 ∧ k_ ≠ s_) u8 x8_2) ∧ (w'.heap[gb628]? = some (.cells #[.int .i64 a0_0, .int .i64 a0_1] 25 (0, 0))) ∧ (w'.heap[gb629]? = some (.cells #[.int .i64 x630000_2, .int .i64 x630001_2] 25 (0, 0))) ∧ (w'.heap[gb638]? = some (.cells #[.int .i64 t633, .int .i64 t634, .int .i64 t635, .int .i64 t636] 46 (0, 0))) ∧ (w'.heap[s_]? = some (.cells #[.int .i64 0, .int .i64 0] 25 (0, 0))) ∧ (w.heap.size ≤ s_) ∧ (w.heap.size ≤ s_) ∧ (gb628 ≠ s_) ∧ (s_ ≠ gb628) ∧ (gb629 ≠ s_) ∧ (s_ ≠ gb629) ∧ (gb638 ≠ s_) ∧ (s_ ≠ gb638) ∧ (Below w.heap.size w w')) ?_ ?_
          rotate_left
          ·intro hCont
           refine two_ (i := 2) (j := 7) (Ni := some 50) (Nj := some 10) #[true, true, true, false, false, false, false, false, false, false] #[true, true, false, false, false, false, false, true, false, false] rfl rfl rfl rfl (two_of HT_.out (by kernel_rfl)) (by decide) (by decide) (fun K hK => ?_) (fun K hK => ?_)
           ·skip
            refine goes_ Try.func68 (by kernel_rfl) rfl #[.int .i64 x9_2] (by rfl) rfl rfl (by (try simp only [List.map_toArray, List.map_cons, List.map_nil]); first | done | rfl | (simp only [List.length_drop, List.length_take]; rfl)) ?_
            with_reducible refine (spec_l17Edge.calls x9_2 t642 t643 _ A43.out).mono ?_
            rintro e w48 ⟨rfl, hb⟩
            refine ⟨_, rfl, ?_⟩
            have n0_ := Az.mk (Kd.R_below (by (with_reducible repeat (first | apply Kd.R_alloc | apply Kd.R_drewN | apply Kd.R_drew)); exact HO_8.out) hb)
            have n1_ := Az.mk (bkB (g := gb628) (o := .cells #[.int .i64 a0_0, .int .i64 a0_1] 25 (0, 0)) (by (with_reducible repeat (first | refine bkN ?_ _ | refine bkD ?_ | refine bkA ?_ _)); exact BK628.out) hb)
            have n2_ := Az.mk (bkB (g := gb629) (o := .cells #[.int .i64 x630000_2, .int .i64 x630001_2] 25 (0, 0)) (by (with_reducible repeat (first | refine bkN ?_ _ | refine bkD ?_ | refine bkA ?_ _)); exact BK629.out) hb)
            have n3_ := Az.mk (bkB (g := gb638) (o := .cells #[.int .i64 t633, .int .i64 t634, .int .i64 t635, .int .i64 t636] 46 (0, 0)) (by (with_reducible repeat (first | refine bkN ?_ _ | refine bkD ?_ | refine bkA ?_ _)); exact BK638.out) hb)
            have n4_ := Az.mk (bwT (by repeat (first | (with_reducible first | exact HB.out | apply bwA | apply pbN | apply bwD | refine bwS ?_ GE628.out | refine bwS ?_ GE629.out | refine bwS ?_ GE638.out) | exact HB.out)) hb)
            clear HO_8
            clear BK628
            clear BK629
            clear BK638
            clear HB
            have HO_8 := n0_
            have BK628 := n1_
            have BK629 := n2_
            have BK638 := n3_
            have HB := n4_
            clear n0_ n1_ n2_ n3_ n4_
            (try clear hb)
            (try clear hb2)
            (try clear hk)
            (try clear hi)
            refine hK.out _ _ ⟨(bkC BK638.out 0).trans rfl, (bkC BK638.out 1).trans rfl, (bkC BK638.out 2).trans rfl, (bkC BK638.out 3).trans rfl⟩ (fun hHeld => ?_)
            clear hK K
            refine norm_ (a' := ?_) ?_ ?_
            rotate_left
            ·show Act.put _ (some 50) _ = _
             simp only [Act.put, List.setIfInBounds_toArray, List.set_cons_zero, List.set_cons_succ, i64_w, i32_w]
             rfl
            refine two_ (i := 3) (j := 7) (Ni := some 51) (Nj := some 10) #[true, true, true, true, false, false, false, false, false, false] #[true, true, true, false, false, false, false, true, false, false] rfl rfl rfl rfl (two_of HT_.out (by kernel_rfl)) (by decide) (by decide) (fun K hK => ?_) (fun K hK => ?_)
            ·skip
             refine goes_ Try.func32 (by kernel_rfl) rfl #[.agg #[.int .i64 t633, .int .i64 t634, .int .i64 t635, .int .i64 t636], .agg #[.int .i64 t642, .int .i64 t643]] (by rfl) rfl rfl (by (try simp only [List.map_toArray, List.map_cons, List.map_nil]); first | done | rfl | (simp only [List.length_drop, List.length_take]; rfl)) ?_
             with_reducible refine (spec_MoveSlope.calls k2 t633 t634 t635 t636 t642 t643 t644 t645 true _ A44.out).mono ?_
             rintro e w49 ⟨rfl, hb⟩
             refine ⟨_, rfl, ?_⟩
             have n0_ := Az.mk (Kd.R_below (by (with_reducible repeat (first | apply Kd.R_alloc | apply Kd.R_drewN | apply Kd.R_drew)); exact HO_8.out) hb)
             have n1_ := Az.mk (bkB (g := gb628) (o := .cells #[.int .i64 a0_0, .int .i64 a0_1] 25 (0, 0)) (by (with_reducible repeat (first | refine bkN ?_ _ | refine bkD ?_ | refine bkA ?_ _)); exact BK628.out) hb)
             have n2_ := Az.mk (bkB (g := gb629) (o := .cells #[.int .i64 x630000_2, .int .i64 x630001_2] 25 (0, 0)) (by (with_reducible repeat (first | refine bkN ?_ _ | refine bkD ?_ | refine bkA ?_ _)); exact BK629.out) hb)
             have n3_ := Az.mk (bkB (g := gb638) (o := .cells #[.int .i64 t633, .int .i64 t634, .int .i64 t635, .int .i64 t636] 46 (0, 0)) (by (with_reducible repeat (first | refine bkN ?_ _ | refine bkD ?_ | refine bkA ?_ _)); exact BK638.out) hb)
             have n4_ := Az.mk (bwT (by repeat (first | (with_reducible first | exact HB.out | apply bwA | apply pbN | apply bwD | refine bwS ?_ GE628.out | refine bwS ?_ GE629.out | refine bwS ?_ GE638.out) | exact HB.out)) hb)
             clear HO_8
             clear BK628
             clear BK629
             clear BK638
             clear HB
             have HO_8 := n0_
             have BK628 := n1_
             have BK629 := n2_
             have BK638 := n3_
             have HB := n4_
             clear n0_ n1_ n2_ n3_ n4_
             (try clear hb)
             (try clear hb2)
             (try clear hk)
             (try clear hi)
             refine hK.out _ _ ⟨(bkC BK638.out 0).trans rfl, (bkC BK638.out 1).trans rfl, (bkC BK638.out 2).trans rfl, (bkC BK638.out 3).trans rfl⟩ (fun hHeld => ?_)
             clear hK K
             refine norm_ (a' := ?_) ?_ ?_
             rotate_left
             ·show Act.put _ (some 51) _ = _
              simp only [Act.put, List.setIfInBounds_toArray, List.set_cons_zero, List.set_cons_succ, i64_w, i32_w]
              rfl
             refine pure_ (i := 4) (N := some 47) (v := ?_) (a' := ?_) #[true, true, true, true, true, false, false, false, false, false] rfl rfl (any_of HT_.out (by kernel_rfl)) (fun _ _ _ h => h) (Or.inl ⟨by rfl, ?_⟩) ?_ ?_
             rotate_left
             ·intro w'
              go_simp
              with_reducible rfl
             rotate_left
             ·simp only [Act.put, List.setIfInBounds_toArray, List.set_cons_zero, List.set_cons_succ, i64_w, i32_w]
              rfl
             refine pure_ (i := 5) (N := some 52) (v := ?_) (a' := ?_) #[true, true, true, true, true, true, false, false, false, false] rfl rfl (any_of HT_.out (by kernel_rfl)) (fun _ _ _ h => h) (Or.inl ⟨by rfl, ?_⟩) ?_ ?_
             rotate_left
             ·intro w'
              go_simp
              with_reducible rfl
             rotate_left
             ·simp only [Act.put, List.setIfInBounds_toArray, List.set_cons_zero, List.set_cons_succ, i64_w, i32_w]
              rfl
             refine pure_ (i := 6) (N := some 53) (v := ?_) (a' := ?_) #[true, true, true, true, true, true, true, false, false, false] rfl rfl (any_of HT_.out (by kernel_rfl)) (fun _ _ _ h => h) (Or.inl ⟨by rfl, ?_⟩) ?_ ?_
             rotate_left
             ·intro w'
              go_simp
              with_reducible rfl
             rotate_left
             ·simp only [Act.put, List.setIfInBounds_toArray, List.set_cons_zero, List.set_cons_succ, i64_w, i32_w]
              rfl
             refine one_ (i := 7) (N := some 10) #[true, true, true, true, true, true, true, true, false, false] rfl rfl (one_of HT_.out (by kernel_rfl)) (by decide) (fun K hK => ?_)
             refine box_step ?hg (N := 10) ?hd (cs := #[.int .i64 0, .int .i64 0]) (t := 25) ?hr ?_; (case hd => rfl); (case hg => rfl); (case hr => first | (go_simp; done) | (go_simp; rfl))
             intro gb647 hg w50 hbox hb
             have n0_ := Az.mk (Kd.R_below (Kd.R_elderB (by (with_reducible repeat (first | apply Kd.R_alloc | apply Kd.R_drewN | apply Kd.R_drew)); exact HO_8.out) gb647 (Nat.le_of_eq hg.symm)) hb)
             have n1_ := Az.mk (bkB (g := gb628) (o := .cells #[.int .i64 a0_0, .int .i64 a0_1] 25 (0, 0)) (by (with_reducible repeat (first | refine bkN ?_ _ | refine bkD ?_ | refine bkA ?_ _)); exact BK628.out) hb)
             have n2_ := Az.mk (bkB (g := gb629) (o := .cells #[.int .i64 x630000_2, .int .i64 x630001_2] 25 (0, 0)) (by (with_reducible repeat (first | refine bkN ?_ _ | refine bkD ?_ | refine bkA ?_ _)); exact BK629.out) hb)
             have n3_ := Az.mk (bkB (g := gb638) (o := .cells #[.int .i64 t633, .int .i64 t634, .int .i64 t635, .int .i64 t636] 46 (0, 0)) (by (with_reducible repeat (first | refine bkN ?_ _ | refine bkD ?_ | refine bkA ?_ _)); exact BK638.out) hb)
             have n4_ := Az.mk (bwT (by repeat (first | (with_reducible first | exact HB.out | apply bwA | apply pbN | apply bwD | refine bwS ?_ GE628.out | refine bwS ?_ GE629.out | refine bwS ?_ GE638.out) | exact HB.out)) hb)
             have n5_ := Az.mk (hbox)
             have n6_ := Az.mk ((by rw [hg]; exact (bwZ (by repeat (first | (with_reducible first | exact HB.out | apply bwA | apply pbN | apply bwD | refine bwS ?_ GE628.out | refine bwS ?_ GE629.out | refine bwS ?_ GE638.out) | exact HB.out))) : w.heap.size ≤ gb647))
             have n7_ := Az.mk ((by rw [hg]; exact (bwZ (by repeat (first | (with_reducible first | exact HB.out | apply bwA | apply pbN | apply bwD | refine bwS ?_ GE628.out | refine bwS ?_ GE629.out | refine bwS ?_ GE638.out) | exact HB.out))) : w.heap.size ≤ gb647))
             have n8_ := Az.mk ((by rw [hg]; exact Nat.ne_of_lt (blk_lt (g := gb628) (o := .cells #[.int .i64 a0_0, .int .i64 a0_1] 25 (0, 0)) (by (with_reducible repeat (first | refine bkN ?_ _ | refine bkD ?_ | refine bkA ?_ _)); exact BK628.out)) : gb628 ≠ gb647))
             have n9_ := Az.mk ((by rw [hg]; exact Nat.ne_of_gt (blk_lt (g := gb628) (o := .cells #[.int .i64 a0_0, .int .i64 a0_1] 25 (0, 0)) (by (with_reducible repeat (first | refine bkN ?_ _ | refine bkD ?_ | refine bkA ?_ _)); exact BK628.out)) : gb647 ≠ gb628))
             have n10_ := Az.mk ((by rw [hg]; exact Nat.ne_of_lt (blk_lt (g := gb629) (o := .cells #[.int .i64 x630000_2, .int .i64 x630001_2] 25 (0, 0)) (by (with_reducible repeat (first | refine bkN ?_ _ | refine bkD ?_ | refine bkA ?_ _)); exact BK629.out)) : gb629 ≠ gb647))
             have n11_ := Az.mk ((by rw [hg]; exact Nat.ne_of_gt (blk_lt (g := gb629) (o := .cells #[.int .i64 x630000_2, .int .i64 x630001_2] 25 (0, 0)) (by (with_reducible repeat (first | refine bkN ?_ _ | refine bkD ?_ | refine bkA ?_ _)); exact BK629.out)) : gb647 ≠ gb629))
             have n12_ := Az.mk ((by rw [hg]; exact Nat.ne_of_lt (blk_lt (g := gb638) (o := .cells #[.int .i64 t633, .int .i64 t634, .int .i64 t635, .int .i64 t636] 46 (0, 0)) (by (with_reducible repeat (first | refine bkN ?_ _ | refine bkD ?_ | refine bkA ?_ _)); exact BK638.out)) : gb638 ≠ gb647))
             have n13_ := Az.mk ((by rw [hg]; exact Nat.ne_of_gt (blk_lt (g := gb638) (o := .cells #[.int .i64 t633, .int .i64 t634, .int .i64 t635, .int .i64 t636] 46 (0, 0)) (by (with_reducible repeat (first | refine bkN ?_ _ | refine bkD ?_ | refine bkA ?_ _)); exact BK638.out)) : gb647 ≠ gb638))
             clear HO_8
             clear BK628
             clear BK629
             clear BK638
             clear HB
             have HO_8 := n0_
             have BK628 := n1_
             have BK629 := n2_
             have BK638 := n3_
             have HB := n4_
             have BK647 := n5_
             have GW647 := n6_
             have GE647 := n7_
             have NB628_647 := n8_
             have NB647_628 := n9_
             have NB629_647 := n10_
             have NB647_629 := n11_
             have NB638_647 := n12_
             have NB647_638 := n13_
             clear n0_ n1_ n2_ n3_ n4_ n5_ n6_ n7_ n8_ n9_ n10_ n11_ n12_ n13_
             clear hb hbox hg
             refine hK.out _ _ ⟨(bkC BK638.out 0).trans rfl, (bkC BK638.out 1).trans rfl, (bkC BK638.out 2).trans rfl, (bkC BK638.out 3).trans rfl⟩ (fun hHeld => ?_)
             clear hK K
             refine norm_ (a' := ?_) ?_ ?_
             rotate_left
             ·show Act.put _ (some 10) _ = _
              simp only [Act.put, List.setIfInBounds_toArray, List.set_cons_zero, List.set_cons_succ, i64_w, i32_w]
              rfl
             exact norm_ (by simp only [putAll, Act.put, List.setIfInBounds_toArray, List.set_cons_zero, List.set_cons_succ]) (hCont (gb647) _ ⟨hHeld, (by (with_reducible repeat (first | apply Kd.R_alloc | apply Kd.R_drewN | apply Kd.R_drew)); exact Kd.R_mono HO_8.out (fun _ hk => ⟨hk.1.1, ⟨hk.1.2, hk.2⟩⟩)), (by (with_reducible repeat (first | refine bkN ?_ _ | refine bkD ?_ | refine bkA ?_ _)); exact BK628.out), (by (with_reducible repeat (first | refine bkN ?_ _ | refine bkD ?_ | refine bkA ?_ _)); exact BK629.out), (by (with_reducible repeat (first | refine bkN ?_ _ | refine bkD ?_ | refine bkA ?_ _)); exact BK638.out), (by (with_reducible repeat (first | refine bkN ?_ _ | refine bkD ?_ | refine bkA ?_ _)); exact BK647.out), GW647.out, GE647.out, NB628_647.out, NB647_628.out, NB629_647.out, NB647_629.out, NB638_647.out, NB647_638.out, (by repeat (first | (with_reducible first | exact HB.out | apply bwA | apply pbN | apply bwD | refine bwS ?_ GE628.out | refine bwS ?_ GE629.out | refine bwS ?_ GE638.out | refine bwS ?_ GE647.out) | exact HB.out))⟩)
            ·skip
             refine box_step ?hg (N := 10) ?hd (cs := #[.int .i64 0, .int .i64 0]) (t := 25) ?hr ?_; (case hd => rfl); (case hg => rfl); (case hr => first | (go_simp; done) | (go_simp; rfl))
             intro gb647 hg w49 hbox hb
             have n0_ := Az.mk (Kd.R_below (Kd.R_elderB (by (with_reducible repeat (first | apply Kd.R_alloc | apply Kd.R_drewN | apply Kd.R_drew)); exact HO_8.out) gb647 (Nat.le_of_eq hg.symm)) hb)
             have n1_ := Az.mk (bkB (g := gb628) (o := .cells #[.int .i64 a0_0, .int .i64 a0_1] 25 (0, 0)) (by (with_reducible repeat (first | refine bkN ?_ _ | refine bkD ?_ | refine bkA ?_ _)); exact BK628.out) hb)
             have n2_ := Az.mk (bkB (g := gb629) (o := .cells #[.int .i64 x630000_2, .int .i64 x630001_2] 25 (0, 0)) (by (with_reducible repeat (first | refine bkN ?_ _ | refine bkD ?_ | refine bkA ?_ _)); exact BK629.out) hb)
             have n3_ := Az.mk (bkB (g := gb638) (o := .cells #[.int .i64 t633, .int .i64 t634, .int .i64 t635, .int .i64 t636] 46 (0, 0)) (by (with_reducible repeat (first | refine bkN ?_ _ | refine bkD ?_ | refine bkA ?_ _)); exact BK638.out) hb)
             have n4_ := Az.mk (bwT (by repeat (first | (with_reducible first | exact HB.out | apply bwA | apply pbN | apply bwD | refine bwS ?_ GE628.out | refine bwS ?_ GE629.out | refine bwS ?_ GE638.out) | exact HB.out)) hb)
             have n5_ := Az.mk (hbox)
             have n6_ := Az.mk ((by rw [hg]; exact (bwZ (by repeat (first | (with_reducible first | exact HB.out | apply bwA | apply pbN | apply bwD | refine bwS ?_ GE628.out | refine bwS ?_ GE629.out | refine bwS ?_ GE638.out) | exact HB.out))) : w.heap.size ≤ gb647))
             have n7_ := Az.mk ((by rw [hg]; exact (bwZ (by repeat (first | (with_reducible first | exact HB.out | apply bwA | apply pbN | apply bwD | refine bwS ?_ GE628.out | refine bwS ?_ GE629.out | refine bwS ?_ GE638.out) | exact HB.out))) : w.heap.size ≤ gb647))
             have n8_ := Az.mk ((by rw [hg]; exact Nat.ne_of_lt (blk_lt (g := gb628) (o := .cells #[.int .i64 a0_0, .int .i64 a0_1] 25 (0, 0)) (by (with_reducible repeat (first | refine bkN ?_ _ | refine bkD ?_ | refine bkA ?_ _)); exact BK628.out)) : gb628 ≠ gb647))
             have n9_ := Az.mk ((by rw [hg]; exact Nat.ne_of_gt (blk_lt (g := gb628) (o := .cells #[.int .i64 a0_0, .int .i64 a0_1] 25 (0, 0)) (by (with_reducible repeat (first | refine bkN ?_ _ | refine bkD ?_ | refine bkA ?_ _)); exact BK628.out)) : gb647 ≠ gb628))
             have n10_ := Az.mk ((by rw [hg]; exact Nat.ne_of_lt (blk_lt (g := gb629) (o := .cells #[.int .i64 x630000_2, .int .i64 x630001_2] 25 (0, 0)) (by (with_reducible repeat (first | refine bkN ?_ _ | refine bkD ?_ | refine bkA ?_ _)); exact BK629.out)) : gb629 ≠ gb647))
             have n11_ := Az.mk ((by rw [hg]; exact Nat.ne_of_gt (blk_lt (g := gb629) (o := .cells #[.int .i64 x630000_2, .int .i64 x630001_2] 25 (0, 0)) (by (with_reducible repeat (first | refine bkN ?_ _ | refine bkD ?_ | refine bkA ?_ _)); exact BK629.out)) : gb647 ≠ gb629))
             have n12_ := Az.mk ((by rw [hg]; exact Nat.ne_of_lt (blk_lt (g := gb638) (o := .cells #[.int .i64 t633, .int .i64 t634, .int .i64 t635, .int .i64 t636] 46 (0, 0)) (by (with_reducible repeat (first | refine bkN ?_ _ | refine bkD ?_ | refine bkA ?_ _)); exact BK638.out)) : gb638 ≠ gb647))
             have n13_ := Az.mk ((by rw [hg]; exact Nat.ne_of_gt (blk_lt (g := gb638) (o := .cells #[.int .i64 t633, .int .i64 t634, .int .i64 t635, .int .i64 t636] 46 (0, 0)) (by (with_reducible repeat (first | refine bkN ?_ _ | refine bkD ?_ | refine bkA ?_ _)); exact BK638.out)) : gb647 ≠ gb638))
             clear HO_8
             clear BK628
             clear BK629
             clear BK638
             clear HB
             have HO_8 := n0_
             have BK628 := n1_
             have BK629 := n2_
             have BK638 := n3_
             have HB := n4_
             have BK647 := n5_
             have GW647 := n6_
             have GE647 := n7_
             have NB628_647 := n8_
             have NB647_628 := n9_
             have NB629_647 := n10_
             have NB647_629 := n11_
             have NB638_647 := n12_
             have NB647_638 := n13_
             clear n0_ n1_ n2_ n3_ n4_ n5_ n6_ n7_ n8_ n9_ n10_ n11_ n12_ n13_
             clear hb hbox hg
             refine hK.out _ _ ⟨(bkC BK638.out 0).trans rfl, (bkC BK638.out 1).trans rfl, (bkC BK638.out 2).trans rfl, (bkC BK638.out 3).trans rfl⟩ (fun hHeld => ?_)
             clear hK K
             refine norm_ (a' := ?_) ?_ ?_
             rotate_left
             ·show Act.put _ (some 10) _ = _
              simp only [Act.put, List.setIfInBounds_toArray, List.set_cons_zero, List.set_cons_succ, i64_w, i32_w]
              rfl
             refine one_ (i := 3) (N := some 51) #[true, true, true, true, false, false, false, true, false, false] rfl rfl (one_of HT_.out (by kernel_rfl)) (by decide) (fun K hK => ?_)
             refine goes_ Try.func32 (by kernel_rfl) rfl #[.agg #[.int .i64 t633, .int .i64 t634, .int .i64 t635, .int .i64 t636], .agg #[.int .i64 t642, .int .i64 t643]] (by rfl) rfl rfl (by (try simp only [List.map_toArray, List.map_cons, List.map_nil]); first | done | rfl | (simp only [List.length_drop, List.length_take]; rfl)) ?_
             with_reducible refine (spec_MoveSlope.calls k2 t633 t634 t635 t636 t642 t643 t644 t645 true _ A44.out).mono ?_
             rintro e w50 ⟨rfl, hb⟩
             refine ⟨_, rfl, ?_⟩
             have n0_ := Az.mk (Kd.R_below (by (with_reducible repeat (first | apply Kd.R_alloc | apply Kd.R_drewN | apply Kd.R_drew)); exact HO_8.out) hb)
             have n1_ := Az.mk (bkB (g := gb628) (o := .cells #[.int .i64 a0_0, .int .i64 a0_1] 25 (0, 0)) (by (with_reducible repeat (first | refine bkN ?_ _ | refine bkD ?_ | refine bkA ?_ _)); exact BK628.out) hb)
             have n2_ := Az.mk (bkB (g := gb629) (o := .cells #[.int .i64 x630000_2, .int .i64 x630001_2] 25 (0, 0)) (by (with_reducible repeat (first | refine bkN ?_ _ | refine bkD ?_ | refine bkA ?_ _)); exact BK629.out) hb)
             have n3_ := Az.mk (bkB (g := gb638) (o := .cells #[.int .i64 t633, .int .i64 t634, .int .i64 t635, .int .i64 t636] 46 (0, 0)) (by (with_reducible repeat (first | refine bkN ?_ _ | refine bkD ?_ | refine bkA ?_ _)); exact BK638.out) hb)
             have n4_ := Az.mk (bkB (g := gb647) (o := .cells #[.int .i64 0, .int .i64 0] 25 (0, 0)) (by (with_reducible repeat (first | refine bkN ?_ _ | refine bkD ?_ | refine bkA ?_ _)); exact BK647.out) hb)
             have n5_ := Az.mk (bwT (by repeat (first | (with_reducible first | exact HB.out | apply bwA | apply pbN | apply bwD | refine bwS ?_ GE628.out | refine bwS ?_ GE629.out | refine bwS ?_ GE638.out | refine bwS ?_ GE647.out) | exact HB.out)) hb)
             clear HO_8
             clear BK628
             clear BK629
             clear BK638
             clear BK647
             clear HB
             have HO_8 := n0_
             have BK628 := n1_
             have BK629 := n2_
             have BK638 := n3_
             have BK647 := n4_
             have HB := n5_
             clear n0_ n1_ n2_ n3_ n4_ n5_
             (try clear hb)
             (try clear hb2)
             (try clear hk)
             (try clear hi)
             refine hK.out _ _ ⟨(bkC BK638.out 0).trans rfl, (bkC BK638.out 1).trans rfl, (bkC BK638.out 2).trans rfl, (bkC BK638.out 3).trans rfl⟩ (fun hHeld => ?_)
             clear hK K
             refine norm_ (a' := ?_) ?_ ?_
             rotate_left
             ·show Act.put _ (some 51) _ = _
              simp only [Act.put, List.setIfInBounds_toArray, List.set_cons_zero, List.set_cons_succ, i64_w, i32_w]
              rfl
             refine pure_ (i := 4) (N := some 47) (v := ?_) (a' := ?_) #[true, true, true, true, true, false, false, true, false, false] rfl rfl (any_of HT_.out (by kernel_rfl)) (fun _ _ _ h => h) (Or.inl ⟨by rfl, ?_⟩) ?_ ?_
             rotate_left
             ·intro w'
              go_simp
              with_reducible rfl
             rotate_left
             ·simp only [Act.put, List.setIfInBounds_toArray, List.set_cons_zero, List.set_cons_succ, i64_w, i32_w]
              rfl
             refine pure_ (i := 5) (N := some 52) (v := ?_) (a' := ?_) #[true, true, true, true, true, true, false, true, false, false] rfl rfl (any_of HT_.out (by kernel_rfl)) (fun _ _ _ h => h) (Or.inl ⟨by rfl, ?_⟩) ?_ ?_
             rotate_left
             ·intro w'
              go_simp
              with_reducible rfl
             rotate_left
             ·simp only [Act.put, List.setIfInBounds_toArray, List.set_cons_zero, List.set_cons_succ, i64_w, i32_w]
              rfl
             refine pure_ (i := 6) (N := some 53) (v := ?_) (a' := ?_) #[true, true, true, true, true, true, true, true, false, false] rfl rfl (any_of HT_.out (by kernel_rfl)) (fun _ _ _ h => h) (Or.inl ⟨by rfl, ?_⟩) ?_ ?_
             rotate_left
             ·intro w'
              go_simp
              with_reducible rfl
             rotate_left
             ·simp only [Act.put, List.setIfInBounds_toArray, List.set_cons_zero, List.set_cons_succ, i64_w, i32_w]
              rfl
             exact norm_ (by simp only [putAll, Act.put, List.setIfInBounds_toArray, List.set_cons_zero, List.set_cons_succ]) (hCont (gb647) _ ⟨hHeld, (by (with_reducible repeat (first | apply Kd.R_alloc | apply Kd.R_drewN | apply Kd.R_drew)); exact Kd.R_mono HO_8.out (fun _ hk => ⟨hk.1.1, ⟨hk.1.2, hk.2⟩⟩)), (by (with_reducible repeat (first | refine bkN ?_ _ | refine bkD ?_ | refine bkA ?_ _)); exact BK628.out), (by (with_reducible repeat (first | refine bkN ?_ _ | refine bkD ?_ | refine bkA ?_ _)); exact BK629.out), (by (with_reducible repeat (first | refine bkN ?_ _ | refine bkD ?_ | refine bkA ?_ _)); exact BK638.out), (by (with_reducible repeat (first | refine bkN ?_ _ | refine bkD ?_ | refine bkA ?_ _)); exact BK647.out), GW647.out, GE647.out, NB628_647.out, NB647_628.out, NB629_647.out, NB647_629.out, NB638_647.out, NB647_638.out, (by repeat (first | (with_reducible first | exact HB.out | apply bwA | apply pbN | apply bwD | refine bwS ?_ GE628.out | refine bwS ?_ GE629.out | refine bwS ?_ GE638.out | refine bwS ?_ GE647.out) | exact HB.out))⟩)
           ·skip
            refine box_step ?hg (N := 10) ?hd (cs := #[.int .i64 0, .int .i64 0]) (t := 25) ?hr ?_; (case hd => rfl); (case hg => rfl); (case hr => first | (go_simp; done) | (go_simp; rfl))
            intro gb647 hg w48 hbox hb
            have n0_ := Az.mk (Kd.R_below (Kd.R_elderB (by (with_reducible repeat (first | apply Kd.R_alloc | apply Kd.R_drewN | apply Kd.R_drew)); exact HO_8.out) gb647 (Nat.le_of_eq hg.symm)) hb)
            have n1_ := Az.mk (bkB (g := gb628) (o := .cells #[.int .i64 a0_0, .int .i64 a0_1] 25 (0, 0)) (by (with_reducible repeat (first | refine bkN ?_ _ | refine bkD ?_ | refine bkA ?_ _)); exact BK628.out) hb)
            have n2_ := Az.mk (bkB (g := gb629) (o := .cells #[.int .i64 x630000_2, .int .i64 x630001_2] 25 (0, 0)) (by (with_reducible repeat (first | refine bkN ?_ _ | refine bkD ?_ | refine bkA ?_ _)); exact BK629.out) hb)
            have n3_ := Az.mk (bkB (g := gb638) (o := .cells #[.int .i64 t633, .int .i64 t634, .int .i64 t635, .int .i64 t636] 46 (0, 0)) (by (with_reducible repeat (first | refine bkN ?_ _ | refine bkD ?_ | refine bkA ?_ _)); exact BK638.out) hb)
            have n4_ := Az.mk (bwT (by repeat (first | (with_reducible first | exact HB.out | apply bwA | apply pbN | apply bwD | refine bwS ?_ GE628.out | refine bwS ?_ GE629.out | refine bwS ?_ GE638.out) | exact HB.out)) hb)
            have n5_ := Az.mk (hbox)
            have n6_ := Az.mk ((by rw [hg]; exact (bwZ (by repeat (first | (with_reducible first | exact HB.out | apply bwA | apply pbN | apply bwD | refine bwS ?_ GE628.out | refine bwS ?_ GE629.out | refine bwS ?_ GE638.out) | exact HB.out))) : w.heap.size ≤ gb647))
            have n7_ := Az.mk ((by rw [hg]; exact (bwZ (by repeat (first | (with_reducible first | exact HB.out | apply bwA | apply pbN | apply bwD | refine bwS ?_ GE628.out | refine bwS ?_ GE629.out | refine bwS ?_ GE638.out) | exact HB.out))) : w.heap.size ≤ gb647))
            have n8_ := Az.mk ((by rw [hg]; exact Nat.ne_of_lt (blk_lt (g := gb628) (o := .cells #[.int .i64 a0_0, .int .i64 a0_1] 25 (0, 0)) (by (with_reducible repeat (first | refine bkN ?_ _ | refine bkD ?_ | refine bkA ?_ _)); exact BK628.out)) : gb628 ≠ gb647))
            have n9_ := Az.mk ((by rw [hg]; exact Nat.ne_of_gt (blk_lt (g := gb628) (o := .cells #[.int .i64 a0_0, .int .i64 a0_1] 25 (0, 0)) (by (with_reducible repeat (first | refine bkN ?_ _ | refine bkD ?_ | refine bkA ?_ _)); exact BK628.out)) : gb647 ≠ gb628))
            have n10_ := Az.mk ((by rw [hg]; exact Nat.ne_of_lt (blk_lt (g := gb629) (o := .cells #[.int .i64 x630000_2, .int .i64 x630001_2] 25 (0, 0)) (by (with_reducible repeat (first | refine bkN ?_ _ | refine bkD ?_ | refine bkA ?_ _)); exact BK629.out)) : gb629 ≠ gb647))
            have n11_ := Az.mk ((by rw [hg]; exact Nat.ne_of_gt (blk_lt (g := gb629) (o := .cells #[.int .i64 x630000_2, .int .i64 x630001_2] 25 (0, 0)) (by (with_reducible repeat (first | refine bkN ?_ _ | refine bkD ?_ | refine bkA ?_ _)); exact BK629.out)) : gb647 ≠ gb629))
            have n12_ := Az.mk ((by rw [hg]; exact Nat.ne_of_lt (blk_lt (g := gb638) (o := .cells #[.int .i64 t633, .int .i64 t634, .int .i64 t635, .int .i64 t636] 46 (0, 0)) (by (with_reducible repeat (first | refine bkN ?_ _ | refine bkD ?_ | refine bkA ?_ _)); exact BK638.out)) : gb638 ≠ gb647))
            have n13_ := Az.mk ((by rw [hg]; exact Nat.ne_of_gt (blk_lt (g := gb638) (o := .cells #[.int .i64 t633, .int .i64 t634, .int .i64 t635, .int .i64 t636] 46 (0, 0)) (by (with_reducible repeat (first | refine bkN ?_ _ | refine bkD ?_ | refine bkA ?_ _)); exact BK638.out)) : gb647 ≠ gb638))
            clear HO_8
            clear BK628
            clear BK629
            clear BK638
            clear HB
            have HO_8 := n0_
            have BK628 := n1_
            have BK629 := n2_
            have BK638 := n3_
            have HB := n4_
            have BK647 := n5_
            have GW647 := n6_
            have GE647 := n7_
            have NB628_647 := n8_
            have NB647_628 := n9_
            have NB629_647 := n10_
            have NB647_629 := n11_
            have NB638_647 := n12_
            have NB647_638 := n13_
            clear n0_ n1_ n2_ n3_ n4_ n5_ n6_ n7_ n8_ n9_ n10_ n11_ n12_ n13_
            clear hb hbox hg
            refine hK.out _ _ ⟨(bkC BK638.out 0).trans rfl, (bkC BK638.out 1).trans rfl, (bkC BK638.out 2).trans rfl, (bkC BK638.out 3).trans rfl⟩ (fun hHeld => ?_)
            clear hK K
            refine norm_ (a' := ?_) ?_ ?_
            rotate_left
            ·show Act.put _ (some 10) _ = _
             simp only [Act.put, List.setIfInBounds_toArray, List.set_cons_zero, List.set_cons_succ, i64_w, i32_w]
             rfl
            refine one_ (i := 2) (N := some 50) #[true, true, true, false, false, false, false, true, false, false] rfl rfl (one_of HT_.out (by kernel_rfl)) (by decide) (fun K hK => ?_)
            refine goes_ Try.func68 (by kernel_rfl) rfl #[.int .i64 x9_2] (by rfl) rfl rfl (by (try simp only [List.map_toArray, List.map_cons, List.map_nil]); first | done | rfl | (simp only [List.length_drop, List.length_take]; rfl)) ?_
            with_reducible refine (spec_l17Edge.calls x9_2 t642 t643 _ A43.out).mono ?_
            rintro e w49 ⟨rfl, hb⟩
            refine ⟨_, rfl, ?_⟩
            have n0_ := Az.mk (Kd.R_below (by (with_reducible repeat (first | apply Kd.R_alloc | apply Kd.R_drewN | apply Kd.R_drew)); exact HO_8.out) hb)
            have n1_ := Az.mk (bkB (g := gb628) (o := .cells #[.int .i64 a0_0, .int .i64 a0_1] 25 (0, 0)) (by (with_reducible repeat (first | refine bkN ?_ _ | refine bkD ?_ | refine bkA ?_ _)); exact BK628.out) hb)
            have n2_ := Az.mk (bkB (g := gb629) (o := .cells #[.int .i64 x630000_2, .int .i64 x630001_2] 25 (0, 0)) (by (with_reducible repeat (first | refine bkN ?_ _ | refine bkD ?_ | refine bkA ?_ _)); exact BK629.out) hb)
            have n3_ := Az.mk (bkB (g := gb638) (o := .cells #[.int .i64 t633, .int .i64 t634, .int .i64 t635, .int .i64 t636] 46 (0, 0)) (by (with_reducible repeat (first | refine bkN ?_ _ | refine bkD ?_ | refine bkA ?_ _)); exact BK638.out) hb)
            have n4_ := Az.mk (bkB (g := gb647) (o := .cells #[.int .i64 0, .int .i64 0] 25 (0, 0)) (by (with_reducible repeat (first | refine bkN ?_ _ | refine bkD ?_ | refine bkA ?_ _)); exact BK647.out) hb)
            have n5_ := Az.mk (bwT (by repeat (first | (with_reducible first | exact HB.out | apply bwA | apply pbN | apply bwD | refine bwS ?_ GE628.out | refine bwS ?_ GE629.out | refine bwS ?_ GE638.out | refine bwS ?_ GE647.out) | exact HB.out)) hb)
            clear HO_8
            clear BK628
            clear BK629
            clear BK638
            clear BK647
            clear HB
            have HO_8 := n0_
            have BK628 := n1_
            have BK629 := n2_
            have BK638 := n3_
            have BK647 := n4_
            have HB := n5_
            clear n0_ n1_ n2_ n3_ n4_ n5_
            (try clear hb)
            (try clear hb2)
            (try clear hk)
            (try clear hi)
            refine hK.out _ _ ⟨(bkC BK638.out 0).trans rfl, (bkC BK638.out 1).trans rfl, (bkC BK638.out 2).trans rfl, (bkC BK638.out 3).trans rfl⟩ (fun hHeld => ?_)
            clear hK K
            refine norm_ (a' := ?_) ?_ ?_
            rotate_left
            ·show Act.put _ (some 50) _ = _
             simp only [Act.put, List.setIfInBounds_toArray, List.set_cons_zero, List.set_cons_succ, i64_w, i32_w]
             rfl
            refine one_ (i := 3) (N := some 51) #[true, true, true, true, false, false, false, true, false, false] rfl rfl (one_of HT_.out (by kernel_rfl)) (by decide) (fun K hK => ?_)
            refine goes_ Try.func32 (by kernel_rfl) rfl #[.agg #[.int .i64 t633, .int .i64 t634, .int .i64 t635, .int .i64 t636], .agg #[.int .i64 t642, .int .i64 t643]] (by rfl) rfl rfl (by (try simp only [List.map_toArray, List.map_cons, List.map_nil]); first | done | rfl | (simp only [List.length_drop, List.length_take]; rfl)) ?_
            with_reducible refine (spec_MoveSlope.calls k2 t633 t634 t635 t636 t642 t643 t644 t645 true _ A44.out).mono ?_
            rintro e w50 ⟨rfl, hb⟩
            refine ⟨_, rfl, ?_⟩
            have n0_ := Az.mk (Kd.R_below (by (with_reducible repeat (first | apply Kd.R_alloc | apply Kd.R_drewN | apply Kd.R_drew)); exact HO_8.out) hb)
            have n1_ := Az.mk (bkB (g := gb628) (o := .cells #[.int .i64 a0_0, .int .i64 a0_1] 25 (0, 0)) (by (with_reducible repeat (first | refine bkN ?_ _ | refine bkD ?_ | refine bkA ?_ _)); exact BK628.out) hb)
            have n2_ := Az.mk (bkB (g := gb629) (o := .cells #[.int .i64 x630000_2, .int .i64 x630001_2] 25 (0, 0)) (by (with_reducible repeat (first | refine bkN ?_ _ | refine bkD ?_ | refine bkA ?_ _)); exact BK629.out) hb)
            have n3_ := Az.mk (bkB (g := gb638) (o := .cells #[.int .i64 t633, .int .i64 t634, .int .i64 t635, .int .i64 t636] 46 (0, 0)) (by (with_reducible repeat (first | refine bkN ?_ _ | refine bkD ?_ | refine bkA ?_ _)); exact BK638.out) hb)
            have n4_ := Az.mk (bkB (g := gb647) (o := .cells #[.int .i64 0, .int .i64 0] 25 (0, 0)) (by (with_reducible repeat (first | refine bkN ?_ _ | refine bkD ?_ | refine bkA ?_ _)); exact BK647.out) hb)
            have n5_ := Az.mk (bwT (by repeat (first | (with_reducible first | exact HB.out | apply bwA | apply pbN | apply bwD | refine bwS ?_ GE628.out | refine bwS ?_ GE629.out | refine bwS ?_ GE638.out | refine bwS ?_ GE647.out) | exact HB.out)) hb)
            clear HO_8
            clear BK628
            clear BK629
            clear BK638
            clear BK647
            clear HB
            have HO_8 := n0_
            have BK628 := n1_
            have BK629 := n2_
            have BK638 := n3_
            have BK647 := n4_
            have HB := n5_
            clear n0_ n1_ n2_ n3_ n4_ n5_
            (try clear hb)
            (try clear hb2)
            (try clear hk)
            (try clear hi)
            refine hK.out _ _ ⟨(bkC BK638.out 0).trans rfl, (bkC BK638.out 1).trans rfl, (bkC BK638.out 2).trans rfl, (bkC BK638.out 3).trans rfl⟩ (fun hHeld => ?_)
            clear hK K
            refine norm_ (a' := ?_) ?_ ?_
            rotate_left
            ·show Act.put _ (some 51) _ = _
             simp only [Act.put, List.setIfInBounds_toArray, List.set_cons_zero, List.set_cons_succ, i64_w, i32_w]
             rfl
            refine pure_ (i := 4) (N := some 47) (v := ?_) (a' := ?_) #[true, true, true, true, true, false, false, true, false, false] rfl rfl (any_of HT_.out (by kernel_rfl)) (fun _ _ _ h => h) (Or.inl ⟨by rfl, ?_⟩) ?_ ?_
            rotate_left
            ·intro w'
             go_simp
             with_reducible rfl
            rotate_left
            ·simp only [Act.put, List.setIfInBounds_toArray, List.set_cons_zero, List.set_cons_succ, i64_w, i32_w]
             rfl
            refine pure_ (i := 5) (N := some 52) (v := ?_) (a' := ?_) #[true, true, true, true, true, true, false, true, false, false] rfl rfl (any_of HT_.out (by kernel_rfl)) (fun _ _ _ h => h) (Or.inl ⟨by rfl, ?_⟩) ?_ ?_
            rotate_left
            ·intro w'
             go_simp
             with_reducible rfl
            rotate_left
            ·simp only [Act.put, List.setIfInBounds_toArray, List.set_cons_zero, List.set_cons_succ, i64_w, i32_w]
             rfl
            refine pure_ (i := 6) (N := some 53) (v := ?_) (a' := ?_) #[true, true, true, true, true, true, true, true, false, false] rfl rfl (any_of HT_.out (by kernel_rfl)) (fun _ _ _ h => h) (Or.inl ⟨by rfl, ?_⟩) ?_ ?_
            rotate_left
            ·intro w'
             go_simp
             with_reducible rfl
            rotate_left
            ·simp only [Act.put, List.setIfInBounds_toArray, List.set_cons_zero, List.set_cons_succ, i64_w, i32_w]
             rfl
            exact norm_ (by simp only [putAll, Act.put, List.setIfInBounds_toArray, List.set_cons_zero, List.set_cons_succ]) (hCont (gb647) _ ⟨hHeld, (by (with_reducible repeat (first | apply Kd.R_alloc | apply Kd.R_drewN | apply Kd.R_drew)); exact Kd.R_mono HO_8.out (fun _ hk => ⟨hk.1.1, ⟨hk.1.2, hk.2⟩⟩)), (by (with_reducible repeat (first | refine bkN ?_ _ | refine bkD ?_ | refine bkA ?_ _)); exact BK628.out), (by (with_reducible repeat (first | refine bkN ?_ _ | refine bkD ?_ | refine bkA ?_ _)); exact BK629.out), (by (with_reducible repeat (first | refine bkN ?_ _ | refine bkD ?_ | refine bkA ?_ _)); exact BK638.out), (by (with_reducible repeat (first | refine bkN ?_ _ | refine bkD ?_ | refine bkA ?_ _)); exact BK647.out), GW647.out, GE647.out, NB628_647.out, NB647_628.out, NB629_647.out, NB647_629.out, NB638_647.out, NB647_638.out, (by repeat (first | (with_reducible first | exact HB.out | apply bwA | apply pbN | apply bwD | refine bwS ?_ GE628.out | refine bwS ?_ GE629.out | refine bwS ?_ GE638.out | refine bwS ?_ GE647.out) | exact HB.out))⟩)
          rintro gb647 w51 ⟨hS_, h0_, h1_, h2_, h3_, h4_, h5_, h6_, h7_, h8_, h9_, h10_, h11_, h12_, h13_⟩
          have n0_ : Az (Kd.R k25 25 w51 w.heap.size (fun k_ => k_ ≠ gb628 ∧ k_ ≠ gb629 ∧ k_ ≠ gb647) u8 x8_2) := ⟨h0_⟩
          have n1_ : Az (w51.heap[gb628]? = some (.cells #[.int .i64 a0_0, .int .i64 a0_1] 25 (0, 0))) := ⟨h1_⟩
          have n2_ : Az (w51.heap[gb629]? = some (.cells #[.int .i64 x630000_2, .int .i64 x630001_2] 25 (0, 0))) := ⟨h2_⟩
          have n3_ : Az (w51.heap[gb638]? = some (.cells #[.int .i64 t633, .int .i64 t634, .int .i64 t635, .int .i64 t636] 46 (0, 0))) := ⟨h3_⟩
          have n4_ : Az (w51.heap[gb647]? = some (.cells #[.int .i64 0, .int .i64 0] 25 (0, 0))) := ⟨h4_⟩
          have n5_ : Az (w.heap.size ≤ gb647) := ⟨h5_⟩
          have n6_ : Az (w.heap.size ≤ gb647) := ⟨h6_⟩
          have n7_ : Az (gb628 ≠ gb647) := ⟨h7_⟩
          have n8_ : Az (gb647 ≠ gb628) := ⟨h8_⟩
          have n9_ : Az (gb629 ≠ gb647) := ⟨h9_⟩
          have n10_ : Az (gb647 ≠ gb629) := ⟨h10_⟩
          have n11_ : Az (gb638 ≠ gb647) := ⟨h11_⟩
          have n12_ : Az (gb647 ≠ gb638) := ⟨h12_⟩
          have n13_ : Az (Below w.heap.size w w51) := ⟨h13_⟩
          clear HO_8
          clear BK628
          clear BK629
          clear BK638
          clear HB
          clear h0_ h1_ h2_ h3_ h4_ h5_ h6_ h7_ h8_ h9_ h10_ h11_ h12_ h13_
          have HO_8 := n0_
          have BK628 := n1_
          have BK629 := n2_
          have BK638 := n3_
          have BK647 := n4_
          have GW647 := n5_
          have GE647 := n6_
          have NB628_647 := n7_
          have NB647_628 := n8_
          have NB629_647 := n9_
          have NB647_629 := n10_
          have NB638_647 := n11_
          have NB647_638 := n12_
          have HB := n13_
          clear n0_ n1_ n2_ n3_ n4_ n5_ n6_ n7_ n8_ n9_ n10_ n11_ n12_ n13_
          have hHeld : w51.cell? ⟨gb638, 0, none⟩ = some (.int .i64 t633) ∧ w51.cell? ⟨gb638, 1, none⟩ = some (.int .i64 t634) ∧ w51.cell? ⟨gb638, 2, none⟩ = some (.int .i64 t635) ∧ w51.cell? ⟨gb638, 3, none⟩ = some (.int .i64 t636) := hS_
          refine norm_ (a' := ?_) ?_ ?_
          rotate_left
          ·simp only [putAll, Act.put, List.setIfInBounds_toArray, List.set_cons_zero, List.set_cons_succ]
           rfl
          refine one_ (i := 8) (N := none) #[true, true, true, true, true, true, true, true, true, false] rfl rfl (one_of HT_.out (by kernel_rfl)) (by decide) (fun K hK => ?_)
          have hs52 : w51.cell? ⟨gb647, 0, none⟩ = some (.int .i64 0) := (bkC BK647.out 0).trans rfl
          have hfs52 := bkF BK647.out 0
          have hns52_0 := NB628_647.out
          have hns52_1 := NB629_647.out
          have hns52_2 := NB638_647.out
          have hms52_0 := NB647_628.out
          have hms52_1 := NB647_629.out
          have hms52_2 := NB647_638.out
          have hs53 : w51.cell? ⟨gb647, 1, none⟩ = some (.int .i64 0) := (bkC BK647.out 1).trans rfl
          have hfs53 := bkF BK647.out 1
          have hns53_0 := NB628_647.out
          have hns53_1 := NB629_647.out
          have hns53_2 := NB638_647.out
          have hms53_0 := NB647_628.out
          have hms53_1 := NB647_629.out
          have hms53_2 := NB647_638.out
          refine skip_ (w1 := ?_) (by rfl) rfl ?_ ?_
          rotate_left
          ·go_simp
           rfl
          refine hK.out _ _ ⟨((cell_far (p := ⟨gb647, _, none⟩) NB638_647.out _).trans (((cell_far (p := ⟨gb647, _, none⟩) NB638_647.out _).trans (hHeld.1)))), ((cell_far (p := ⟨gb647, _, none⟩) NB638_647.out _).trans (((cell_far (p := ⟨gb647, _, none⟩) NB638_647.out _).trans (hHeld.2.1)))), ((cell_far (p := ⟨gb647, _, none⟩) NB638_647.out _).trans (((cell_far (p := ⟨gb647, _, none⟩) NB638_647.out _).trans (hHeld.2.2.1)))), ((cell_far (p := ⟨gb647, _, none⟩) NB638_647.out _).trans (((cell_far (p := ⟨gb647, _, none⟩) NB638_647.out _).trans (hHeld.2.2.2))))⟩ (fun hHeld => ?_)
          clear hK K
          refine pure_ (i := 9) (N := some 11) (v := ?_) (a' := ?_) #[true, true, true, true, true, true, true, true, true, true] rfl rfl (any_of HT_.out (by kernel_rfl)) (fun _ _ _ h => h) (Or.inl ⟨by rfl, ?_⟩) ?_ ?_
          rotate_left
          ·intro w'
           go_simp
           with_reducible rfl
          rotate_left
          ·simp only [Act.put, List.setIfInBounds_toArray, List.set_cons_zero, List.set_cons_succ, i64_w, i32_w]
           rfl
          refine done_ (done_of HT_.out (by kernel_rfl)) ?_
          have hnb54 := NB647_628.out
          have hnc54 := NB628_647.out
          have hnb55 := NB647_629.out
          have hnc55 := NB629_647.out
          have hnb56 := NB647_638.out
          have hnc56 := NB638_647.out
          have hcz57_0 : w51.cell? ⟨gb647, 0, none⟩ = some (.int .i64 0) := (bkC BK647.out 0).trans rfl
          have hcz57_1 : w51.cell? ⟨gb647, 1, none⟩ = some (.int .i64 0) := (bkC BK647.out 1).trans rfl
          have hfz57_0 := bkF BK647.out 0
          have hfz57_1 := bkF BK647.out 1
          try go_wp2_with (first | ((with_reducible refine gate_builtin (b := .append) (xs := #[.tmp 57, .tmp 59]) rfl ?_); at_builtin; refine Kd.R_append k25 (w0 := w) w.heap.size rfl (.tmp 57) (.tmp 59) 28 25 (.agg #[(.int .i64 0), (.int .i64 0)]) 16 rfl Try.underlying28 info25 rfl (by decide) (by omega) u8 x8_2 (⟨t644, t645⟩ : S25) [.int .i64 t644, .int .i64 t645] (fun k_ => k_ ≠ gb628 ∧ k_ ≠ gb629 ∧ k_ ≠ gb647) (fun _ => False) rfl (by first | (go_simp; done) | (go_simp; rfl)) ?aP (fun _ hk => hk.elim) ?aF ?aO ?aB ?aS ?aL ?_; (case aP => exact k25_mkM _ _ _ (⟨t644, t645⟩ : S25)); (case aB => exact (by repeat (first | (with_reducible first | exact HB.out | apply bwA | apply pbN | apply bwD | refine bwS ?_ GE628.out | refine bwS ?_ GE629.out | refine bwS ?_ GE638.out | refine bwS ?_ GE647.out) | exact HB.out))); (case aF => exact (fun k_ hk => ⟨Kd.freshB (g := gb628) (o := .cells #[.int .i64 a0_0, .int .i64 a0_1] 25 (0, 0)) (by (with_reducible repeat (first | refine bkN ?_ _ | refine bkD ?_ | refine bkA ?_ _)); refine bkf ?_ NB628_647.out _; (with_reducible repeat (first | refine bkN ?_ _ | refine bkD ?_ | refine bkA ?_ _)); refine bkf ?_ NB628_647.out _; (with_reducible repeat (first | refine bkN ?_ _ | refine bkD ?_ | refine bkA ?_ _)); exact BK628.out) k_ hk, Kd.freshB (g := gb629) (o := .cells #[.int .i64 x630000_2, .int .i64 x630001_2] 25 (0, 0)) (by (with_reducible repeat (first | refine bkN ?_ _ | refine bkD ?_ | refine bkA ?_ _)); refine bkf ?_ NB629_647.out _; (with_reducible repeat (first | refine bkN ?_ _ | refine bkD ?_ | refine bkA ?_ _)); refine bkf ?_ NB629_647.out _; (with_reducible repeat (first | refine bkN ?_ _ | refine bkD ?_ | refine bkA ?_ _)); exact BK629.out) k_ hk, Kd.freshB (g := gb647) (o := .cells #[.int .i64 t644, .int .i64 t645] 25 (0, 0)) (by (with_reducible repeat (first | refine bkN ?_ _ | refine bkD ?_ | refine bkA ?_ _)); refine bkp (cs := #[.int .i64 t644, .int .i64 0]) ?_ 1 _ rfl; (with_reducible repeat (first | refine bkN ?_ _ | refine bkD ?_ | refine bkA ?_ _)); refine bkp (cs := #[.int .i64 0, .int .i64 0]) ?_ 0 _ rfl; (with_reducible repeat (first | refine bkN ?_ _ | refine bkD ?_ | refine bkA ?_ _)); exact BK647.out) k_ hk⟩)); (case aO => exact (by (with_reducible repeat (first | apply Kd.R_alloc | apply Kd.R_drewN | apply Kd.R_drew)); exact Kd.R_mono (Kd.R_far (p := ⟨gb647, 1, none⟩) (Kd.R_far (p := ⟨gb647, 0, none⟩) (Kd.R_mono HO_8.out (fun k_ hk => (⟨hk, hk.2.2⟩ : _ ∧ k_ ≠ gb647))) (fun _ hk => hk.2) (.int .i64 t644)) (fun _ hk => hk.2) (.int .i64 t645)) (fun _ hk => ⟨hk.1.1, ⟨hk.1.2.1, hk.1.2.2⟩⟩))); (case aS => exact (bwZ (by repeat (first | (with_reducible first | exact HB.out | apply bwA | apply pbN | apply bwD | refine bwS ?_ GE628.out | refine bwS ?_ GE629.out | refine bwS ?_ GE638.out | refine bwS ?_ GE647.out) | exact HB.out)))); (case aL => have := LMc46.out; omega); intro v649 w58 ho hb hg hat; rw [← Ny648.out] at ho; have n0_ := Az.mk (blk_grown (g := gb628) (o := .cells #[.int .i64 a0_0, .int .i64 a0_1] 25 (0, 0)) (by (with_reducible repeat (first | refine bkN ?_ _ | refine bkD ?_ | refine bkA ?_ _)); refine bkf ?_ NB628_647.out _; (with_reducible repeat (first | refine bkN ?_ _ | refine bkD ?_ | refine bkA ?_ _)); refine bkf ?_ NB628_647.out _; (with_reducible repeat (first | refine bkN ?_ _ | refine bkD ?_ | refine bkA ?_ _)); exact BK628.out) hg (Kd.R_away HO_8.out (fun _ hk => hk.1))); have n1_ := Az.mk (blk_grown (g := gb629) (o := .cells #[.int .i64 x630000_2, .int .i64 x630001_2] 25 (0, 0)) (by (with_reducible repeat (first | refine bkN ?_ _ | refine bkD ?_ | refine bkA ?_ _)); refine bkf ?_ NB629_647.out _; (with_reducible repeat (first | refine bkN ?_ _ | refine bkD ?_ | refine bkA ?_ _)); refine bkf ?_ NB629_647.out _; (with_reducible repeat (first | refine bkN ?_ _ | refine bkD ?_ | refine bkA ?_ _)); exact BK629.out) hg (Kd.R_away HO_8.out (fun _ hk => hk.2.1))); have n2_ := Az.mk (blk_grown (g := gb638) (o := .cells #[.int .i64 t633, .int .i64 t634, .int .i64 t635, .int .i64 t636] 46 (0, 0)) (by (with_reducible repeat (first | refine bkN ?_ _ | refine bkD ?_ | refine bkA ?_ _)); refine bkf ?_ NB638_647.out _; (with_reducible repeat (first | refine bkN ?_ _ | refine bkD ?_ | refine bkA ?_ _)); refine bkf ?_ NB638_647.out _; (with_reducible repeat (first | refine bkN ?_ _ | refine bkD ?_ | refine bkA ?_ _)); exact BK638.out) hg (Kd.R_ne HO_8.out BK638.out (by decide))); have n3_ := Az.mk (blk_grown (g := gb647) (o := .cells #[.int .i64 t644, .int .i64 t645] 25 (0, 0)) (by (with_reducible repeat (first | refine bkN ?_ _ | refine bkD ?_ | refine bkA ?_ _)); refine bkp (cs := #[.int .i64 t644, .int .i64 0]) ?_ 1 _ rfl; (with_reducible repeat (first | refine bkN ?_ _ | refine bkD ?_ | refine bkA ?_ _)); refine bkp (cs := #[.int .i64 0, .int .i64 0]) ?_ 0 _ rfl; (with_reducible repeat (first | refine bkN ?_ _ | refine bkD ?_ | refine bkA ?_ _)); exact BK647.out) hg (Kd.R_away HO_8.out (fun _ hk => hk.2.2))); have n4_ := Az.mk (hb); have n5_ := Az.mk (ho); clear BK628; clear BK629; clear BK638; clear BK647; clear HB; clear HO_8; have BK628 := n0_; have BK629 := n1_; have BK638 := n2_; have BK647 := n3_; have HB := n4_; have HO650 := n5_; clear n0_ n1_ n2_ n3_ n4_ n5_; clear ho hb hg hat))
          go_roundg k2
          case measure => have := HJ2.out; have := HK2.out; omega
          case rel => exact ⟨(y648), (wrap64 (x9_2 + 1)), (x630000_2), (x630001_2), (by first | rfl | (simp; done) | (simp [*]; done)), H', ⟨by have := HJ2.out; have := HK2.out; omega⟩, ⟨by (with_reducible repeat (first | apply Kd.R_alloc | apply Kd.R_drewN | apply Kd.R_drew)); exact Kd.R_mono HO650.out (fun _ hk => ⟨hk.1, hk.2.1⟩)⟩, ⟨by (with_reducible repeat (first | refine bkN ?_ _ | refine bkD ?_ | refine bkA ?_ _)); exact BK628.out⟩, ⟨by (with_reducible repeat (first | refine bkN ?_ _ | refine bkD ?_ | refine bkA ?_ _)); exact BK629.out⟩, ⟨by (with_reducible repeat (first | refine bkN ?_ _ | refine bkD ?_ | refine bkA ?_ _)); exact BK638.out⟩, ⟨by repeat (first | (with_reducible first | exact HB.out | apply bwA | apply pbN | apply bwD | refine bwS ?_ GE628.out | refine bwS ?_ GE629.out | refine bwS ?_ GE638.out | refine bwS ?_ GE647.out) | exact HB.out)⟩⟩
         ·rw [if_neg c46] at H
          exact absurd H (by simp)
        ·replace c45 := Bool.eq_false_iff.mpr c45
         subst c45
         have H1 : (some (0, 0, false)) = some (r1, r2, r3) := by rw [if_neg (show ¬ (false = true) by decide)] at H; exact H
         clear H
         have H := H1
         clear H1
         simp only [Option.some.injEq, Prod.mk.injEq] at H
         obtain ⟨rfl, rfl, rfl⟩ := H
         try go_wp2
         have n0_ := Az.mk (Kd.R_drew HO_8.out)
         have n1_ := Az.mk (bkD BK628.out)
         have n2_ := Az.mk (bkD BK629.out)
         have n3_ := Az.mk (bkD BK638.out)
         have n4_ := Az.mk (bwD HB.out)
         clear HO_8
         clear BK628
         clear BK629
         clear BK638
         clear HB
         have HO_8 := n0_
         have BK628 := n1_
         have BK629 := n2_
         have BK638 := n3_
         have HB := n4_
         clear n0_ n1_ n2_ n3_ n4_
         refine start_ (n := 10) (S := fun w' => w'.cell? ⟨gb638, 0, none⟩ = some (.int .i64 t633) ∧ w'.cell? ⟨gb638, 1, none⟩ = some (.int .i64 t634) ∧ w'.cell? ⟨gb638, 2, none⟩ = some (.int .i64 t635) ∧ w'.cell? ⟨gb638, 3, none⟩ = some (.int .i64 t636)) (ds := []) #[false, false, false, false, false, false, false, false, false, false] (by kernel_rfl) rfl rfl ⟨(bkC BK638.out 0).trans rfl, (bkC BK638.out 1).trans rfl, (bkC BK638.out 2).trans rfl, (bkC BK638.out 3).trans rfl⟩ (fun hHeld => ?_); refine with_tabW spec_FlipSlope.tab10 spec_FlipSlope.bits10 (fun HT_ HW_ => ?_)
         generalize wr.drew = w59 at HO_8 BK628 BK629 BK638 HB hHeld ⊢
         refine pure_ (i := 1) (N := some 49) (v := ?_) (a' := ?_) #[false, true, false, false, false, false, false, false, false, false] rfl rfl (any_of HT_.out (by kernel_rfl)) (fun _ _ _ h => h) (Or.inl ⟨by rfl, ?_⟩) ?_ ?_
         rotate_left
         ·intro w'
          go_simp
          with_reducible rfl
         rotate_left
         ·simp only [Act.put, List.setIfInBounds_toArray, List.set_cons_zero, List.set_cons_succ, i64_w, i32_w]
          rfl
         refine take_ (i := 0) (N := some 48) (v := ?_) (a' := ?_) #[true, true, false, false, false, false, false, false, false, false] rfl rfl (take_ofW HT_.out HW_.out (by kernel_rfl)) (fun _ _ _ h => h) (Or.inl ⟨by rfl, ?_⟩) hHeld ?_ ?_
         rotate_left
         ·rintro w' ⟨s0, s1, s2, s3⟩
          go_simp
          with_reducible rfl
         rotate_left
         ·simp only [Act.put, List.setIfInBounds_toArray, List.set_cons_zero, List.set_cons_succ, i64_w, i32_w]
          rfl
         refine join_ (σ := Nat) 2 #[true, true, true, true, true, true, true, true, false, false] (fun s_ => [(50, .agg #[.int .i64 t642, .int .i64 t643]), (51, .tuple #[.agg #[.int .i64 t644, .int .i64 t645], .bool false]), (10, .pointer (some ⟨s_, 0, none⟩)), (47, .tuple #[.agg #[.int .i64 t644, .int .i64 t645], .bool false]), (52, .agg #[.int .i64 t644, .int .i64 t645]), (53, .bool false)]) (fun s_ w' => (w'.cell? ⟨gb638, 0, none⟩ = some (.int .i64 t633) ∧ w'.cell? ⟨gb638, 1, none⟩ = some (.int .i64 t634) ∧ w'.cell? ⟨gb638, 2, none⟩ = some (.int .i64 t635) ∧ w'.cell? ⟨gb638, 3, none⟩ = some (.int .i64 t636)) ∧ (Kd.R k25 25 w' w.heap.size (fun k_ => k_ ≠ gb628 ∧ k_ ≠ gb629 ∧ k_ ≠ s_) u8 x8_2) ∧ (w'.heap[gb628]? = some (.cells #[.int .i64 a0_0, .int .i64 a0_1] 25 (0, 0))) ∧ (w'.heap[gb629]? = some (.cells #[.int .i64 x630000_2, .int .i64 x630001_2] 25 (0, 0))) ∧ (w'.heap[gb638]? = some (.cells #[.int .i64 t633, .int .i64 t634, .int .i64 t635, .int .i64 t636] 46 (0, 0))) ∧ (w'.heap[s_]? = some (.cells #[.int .i64 0, .int .i64 0] 25 (0, 0))) ∧ (w.heap.size ≤ s_) ∧ (w.heap.size ≤ s_) ∧ (gb628 ≠ s_) ∧ (s_ ≠ gb628) ∧ (gb629 ≠ s_) ∧ (s_ ≠ gb629) ∧ (gb638 ≠ s_) ∧ (s_ ≠ gb638) ∧ (Below w.heap.size w w')) ?_ ?_
         rotate_left
         ·intro hCont
          refine two_ (i := 2) (j := 7) (Ni := some 50) (Nj := some 10) #[true, true, true, false, false, false, false, false, false, false] #[true, true, false, false, false, false, false, true, false, false] rfl rfl rfl rfl (two_of HT_.out (by kernel_rfl)) (by decide) (by decide) (fun K hK => ?_) (fun K hK => ?_)
          ·skip
           refine goes_ Try.func68 (by kernel_rfl) rfl #[.int .i64 x9_2] (by rfl) rfl rfl (by (try simp only [List.map_toArray, List.map_cons, List.map_nil]); first | done | rfl | (simp only [List.length_drop, List.length_take]; rfl)) ?_
           with_reducible refine (spec_l17Edge.calls x9_2 t642 t643 _ A43.out).mono ?_
           rintro e w60 ⟨rfl, hb⟩
           refine ⟨_, rfl, ?_⟩
           have n0_ := Az.mk (Kd.R_below (by (with_reducible repeat (first | apply Kd.R_alloc | apply Kd.R_drewN | apply Kd.R_drew)); exact HO_8.out) hb)
           have n1_ := Az.mk (bkB (g := gb628) (o := .cells #[.int .i64 a0_0, .int .i64 a0_1] 25 (0, 0)) (by (with_reducible repeat (first | refine bkN ?_ _ | refine bkD ?_ | refine bkA ?_ _)); exact BK628.out) hb)
           have n2_ := Az.mk (bkB (g := gb629) (o := .cells #[.int .i64 x630000_2, .int .i64 x630001_2] 25 (0, 0)) (by (with_reducible repeat (first | refine bkN ?_ _ | refine bkD ?_ | refine bkA ?_ _)); exact BK629.out) hb)
           have n3_ := Az.mk (bkB (g := gb638) (o := .cells #[.int .i64 t633, .int .i64 t634, .int .i64 t635, .int .i64 t636] 46 (0, 0)) (by (with_reducible repeat (first | refine bkN ?_ _ | refine bkD ?_ | refine bkA ?_ _)); exact BK638.out) hb)
           have n4_ := Az.mk (bwT (by repeat (first | (with_reducible first | exact HB.out | apply bwA | apply pbN | apply bwD | refine bwS ?_ GE628.out | refine bwS ?_ GE629.out | refine bwS ?_ GE638.out) | exact HB.out)) hb)
           clear HO_8
           clear BK628
           clear BK629
           clear BK638
           clear HB
           have HO_8 := n0_
           have BK628 := n1_
           have BK629 := n2_
           have BK638 := n3_
           have HB := n4_
           clear n0_ n1_ n2_ n3_ n4_
           (try clear hb)
           (try clear hb2)
           (try clear hk)
           (try clear hi)
           refine hK.out _ _ ⟨(bkC BK638.out 0).trans rfl, (bkC BK638.out 1).trans rfl, (bkC BK638.out 2).trans rfl, (bkC BK638.out 3).trans rfl⟩ (fun hHeld => ?_)
           clear hK K
           refine norm_ (a' := ?_) ?_ ?_
           rotate_left
           ·show Act.put _ (some 50) _ = _
            simp only [Act.put, List.setIfInBounds_toArray, List.set_cons_zero, List.set_cons_succ, i64_w, i32_w]
            rfl
           refine two_ (i := 3) (j := 7) (Ni := some 51) (Nj := some 10) #[true, true, true, true, false, false, false, false, false, false] #[true, true, true, false, false, false, false, true, false, false] rfl rfl rfl rfl (two_of HT_.out (by kernel_rfl)) (by decide) (by decide) (fun K hK => ?_) (fun K hK => ?_)
           ·skip
            refine goes_ Try.func32 (by kernel_rfl) rfl #[.agg #[.int .i64 t633, .int .i64 t634, .int .i64 t635, .int .i64 t636], .agg #[.int .i64 t642, .int .i64 t643]] (by rfl) rfl rfl (by (try simp only [List.map_toArray, List.map_cons, List.map_nil]); first | done | rfl | (simp only [List.length_drop, List.length_take]; rfl)) ?_
            with_reducible refine (spec_MoveSlope.calls k2 t633 t634 t635 t636 t642 t643 t644 t645 false _ A44.out).mono ?_
            rintro e w61 ⟨rfl, hb⟩
            refine ⟨_, rfl, ?_⟩
            have n0_ := Az.mk (Kd.R_below (by (with_reducible repeat (first | apply Kd.R_alloc | apply Kd.R_drewN | apply Kd.R_drew)); exact HO_8.out) hb)
            have n1_ := Az.mk (bkB (g := gb628) (o := .cells #[.int .i64 a0_0, .int .i64 a0_1] 25 (0, 0)) (by (with_reducible repeat (first | refine bkN ?_ _ | refine bkD ?_ | refine bkA ?_ _)); exact BK628.out) hb)
            have n2_ := Az.mk (bkB (g := gb629) (o := .cells #[.int .i64 x630000_2, .int .i64 x630001_2] 25 (0, 0)) (by (with_reducible repeat (first | refine bkN ?_ _ | refine bkD ?_ | refine bkA ?_ _)); exact BK629.out) hb)
            have n3_ := Az.mk (bkB (g := gb638) (o := .cells #[.int .i64 t633, .int .i64 t634, .int .i64 t635, .int .i64 t636] 46 (0, 0)) (by (with_reducible repeat (first | refine bkN ?_ _ | refine bkD ?_ | refine bkA ?_ _)); exact BK638.out) hb)
            have n4_ := Az.mk (bwT (by repeat (first | (with_reducible first | exact HB.out | apply bwA | apply pbN | apply bwD | refine bwS ?_ GE628.out | refine bwS ?_ GE629.out | refine bwS ?_ GE638.out) | exact HB.out)) hb)
            clear HO_8
            clear BK628
            clear BK629
            clear BK638
            clear HB
            have HO_8 := n0_
            have BK628 := n1_
            have BK629 := n2_
            have BK638 := n3_
            have HB := n4_
            clear n0_ n1_ n2_ n3_ n4_
            (try clear hb)
            (try clear hb2)
            (try clear hk)
            (try clear hi)
            refine hK.out _ _ ⟨(bkC BK638.out 0).trans rfl, (bkC BK638.out 1).trans rfl, (bkC BK638.out 2).trans rfl, (bkC BK638.out 3).trans rfl⟩ (fun hHeld => ?_)
            clear hK K
            refine norm_ (a' := ?_) ?_ ?_
            rotate_left
            ·show Act.put _ (some 51) _ = _
             simp only [Act.put, List.setIfInBounds_toArray, List.set_cons_zero, List.set_cons_succ, i64_w, i32_w]
             rfl
            refine pure_ (i := 4) (N := some 47) (v := ?_) (a' := ?_) #[true, true, true, true, true, false, false, false, false, false] rfl rfl (any_of HT_.out (by kernel_rfl)) (fun _ _ _ h => h) (Or.inl ⟨by rfl, ?_⟩) ?_ ?_
            rotate_left
            ·intro w'
             go_simp
             with_reducible rfl
            rotate_left
            ·simp only [Act.put, List.setIfInBounds_toArray, List.set_cons_zero, List.set_cons_succ, i64_w, i32_w]
             rfl
            refine pure_ (i := 5) (N := some 52) (v := ?_) (a' := ?_) #[true, true, true, true, true, true, false, false, false, false] rfl rfl (any_of HT_.out (by kernel_rfl)) (fun _ _ _ h => h) (Or.inl ⟨by rfl, ?_⟩) ?_ ?_
            rotate_left
            ·intro w'
             go_simp
             with_reducible rfl
            rotate_left
            ·simp only [Act.put, List.setIfInBounds_toArray, List.set_cons_zero, List.set_cons_succ, i64_w, i32_w]
             rfl
            refine pure_ (i := 6) (N := some 53) (v := ?_) (a' := ?_) #[true, true, true, true, true, true, true, false, false, false] rfl rfl (any_of HT_.out (by kernel_rfl)) (fun _ _ _ h => h) (Or.inl ⟨by rfl, ?_⟩) ?_ ?_
            rotate_left
            ·intro w'
             go_simp
             with_reducible rfl
            rotate_left
            ·simp only [Act.put, List.setIfInBounds_toArray, List.set_cons_zero, List.set_cons_succ, i64_w, i32_w]
             rfl
            refine one_ (i := 7) (N := some 10) #[true, true, true, true, true, true, true, true, false, false] rfl rfl (one_of HT_.out (by kernel_rfl)) (by decide) (fun K hK => ?_)
            refine box_step ?hg (N := 10) ?hd (cs := #[.int .i64 0, .int .i64 0]) (t := 25) ?hr ?_; (case hd => rfl); (case hg => rfl); (case hr => first | (go_simp; done) | (go_simp; rfl))
            intro gb647 hg w62 hbox hb
            have n0_ := Az.mk (Kd.R_below (Kd.R_elderB (by (with_reducible repeat (first | apply Kd.R_alloc | apply Kd.R_drewN | apply Kd.R_drew)); exact HO_8.out) gb647 (Nat.le_of_eq hg.symm)) hb)
            have n1_ := Az.mk (bkB (g := gb628) (o := .cells #[.int .i64 a0_0, .int .i64 a0_1] 25 (0, 0)) (by (with_reducible repeat (first | refine bkN ?_ _ | refine bkD ?_ | refine bkA ?_ _)); exact BK628.out) hb)
            have n2_ := Az.mk (bkB (g := gb629) (o := .cells #[.int .i64 x630000_2, .int .i64 x630001_2] 25 (0, 0)) (by (with_reducible repeat (first | refine bkN ?_ _ | refine bkD ?_ | refine bkA ?_ _)); exact BK629.out) hb)
            have n3_ := Az.mk (bkB (g := gb638) (o := .cells #[.int .i64 t633, .int .i64 t634, .int .i64 t635, .int .i64 t636] 46 (0, 0)) (by (with_reducible repeat (first | refine bkN ?_ _ | refine bkD ?_ | refine bkA ?_ _)); exact BK638.out) hb)
            have n4_ := Az.mk (bwT (by repeat (first | (with_reducible first | exact HB.out | apply bwA | apply pbN | apply bwD | refine bwS ?_ GE628.out | refine bwS ?_ GE629.out | refine bwS ?_ GE638.out) | exact HB.out)) hb)
            have n5_ := Az.mk (hbox)
            have n6_ := Az.mk ((by rw [hg]; exact (bwZ (by repeat (first | (with_reducible first | exact HB.out | apply bwA | apply pbN | apply bwD | refine bwS ?_ GE628.out | refine bwS ?_ GE629.out | refine bwS ?_ GE638.out) | exact HB.out))) : w.heap.size ≤ gb647))
            have n7_ := Az.mk ((by rw [hg]; exact (bwZ (by repeat (first | (with_reducible first | exact HB.out | apply bwA | apply pbN | apply bwD | refine bwS ?_ GE628.out | refine bwS ?_ GE629.out | refine bwS ?_ GE638.out) | exact HB.out))) : w.heap.size ≤ gb647))
            have n8_ := Az.mk ((by rw [hg]; exact Nat.ne_of_lt (blk_lt (g := gb628) (o := .cells #[.int .i64 a0_0, .int .i64 a0_1] 25 (0, 0)) (by (with_reducible repeat (first | refine bkN ?_ _ | refine bkD ?_ | refine bkA ?_ _)); exact BK628.out)) : gb628 ≠ gb647))
            have n9_ := Az.mk ((by rw [hg]; exact Nat.ne_of_gt (blk_lt (g := gb628) (o := .cells #[.int .i64 a0_0, .int .i64 a0_1] 25 (0, 0)) (by (with_reducible repeat (first | refine bkN ?_ _ | refine bkD ?_ | refine bkA ?_ _)); exact BK628.out)) : gb647 ≠ gb628))
            have n10_ := Az.mk ((by rw [hg]; exact Nat.ne_of_lt (blk_lt (g := gb629) (o := .cells #[.int .i64 x630000_2, .int .i64 x630001_2] 25 (0, 0)) (by (with_reducible repeat (first | refine bkN ?_ _ | refine bkD ?_ | refine bkA ?_ _)); exact BK629.out)) : gb629 ≠ gb647))
            have n11_ := Az.mk ((by rw [hg]; exact Nat.ne_of_gt (blk_lt (g := gb629) (o := .cells #[.int .i64 x630000_2, .int .i64 x630001_2] 25 (0, 0)) (by (with_reducible repeat (first | refine bkN ?_ _ | refine bkD ?_ | refine bkA ?_ _)); exact BK629.out)) : gb647 ≠ gb629))
            have n12_ := Az.mk ((by rw [hg]; exact Nat.ne_of_lt (blk_lt (g := gb638) (o := .cells #[.int .i64 t633, .int .i64 t634, .int .i64 t635, .int .i64 t636] 46 (0, 0)) (by (with_reducible repeat (first | refine bkN ?_ _ | refine bkD ?_ | refine bkA ?_ _)); exact BK638.out)) : gb638 ≠ gb647))
            have n13_ := Az.mk ((by rw [hg]; exact Nat.ne_of_gt (blk_lt (g := gb638) (o := .cells #[.int .i64 t633, .int .i64 t634, .int .i64 t635, .int .i64 t636] 46 (0, 0)) (by (with_reducible repeat (first | refine bkN ?_ _ | refine bkD ?_ | refine bkA ?_ _)); exact BK638.out)) : gb647 ≠ gb638))
            clear HO_8
            clear BK628
            clear BK629
            clear BK638
            clear HB
            have HO_8 := n0_
            have BK628 := n1_
            have BK629 := n2_
            have BK638 := n3_
            have HB := n4_
            have BK647 := n5_
            have GW647 := n6_
            have GE647 := n7_
            have NB628_647 := n8_
            have NB647_628 := n9_
            have NB629_647 := n10_
            have NB647_629 := n11_
            have NB638_647 := n12_
            have NB647_638 := n13_
            clear n0_ n1_ n2_ n3_ n4_ n5_ n6_ n7_ n8_ n9_ n10_ n11_ n12_ n13_
            clear hb hbox hg
            refine hK.out _ _ ⟨(bkC BK638.out 0).trans rfl, (bkC BK638.out 1).trans rfl, (bkC BK638.out 2).trans rfl, (bkC BK638.out 3).trans rfl⟩ (fun hHeld => ?_)
            clear hK K
            refine norm_ (a' := ?_) ?_ ?_
            rotate_left
            ·show Act.put _ (some 10) _ = _
             simp only [Act.put, List.setIfInBounds_toArray, List.set_cons_zero, List.set_cons_succ, i64_w, i32_w]
             rfl
            exact norm_ (by simp only [putAll, Act.put, List.setIfInBounds_toArray, List.set_cons_zero, List.set_cons_succ]) (hCont (gb647) _ ⟨hHeld, (by (with_reducible repeat (first | apply Kd.R_alloc | apply Kd.R_drewN | apply Kd.R_drew)); exact Kd.R_mono HO_8.out (fun _ hk => ⟨hk.1.1, ⟨hk.1.2, hk.2⟩⟩)), (by (with_reducible repeat (first | refine bkN ?_ _ | refine bkD ?_ | refine bkA ?_ _)); exact BK628.out), (by (with_reducible repeat (first | refine bkN ?_ _ | refine bkD ?_ | refine bkA ?_ _)); exact BK629.out), (by (with_reducible repeat (first | refine bkN ?_ _ | refine bkD ?_ | refine bkA ?_ _)); exact BK638.out), (by (with_reducible repeat (first | refine bkN ?_ _ | refine bkD ?_ | refine bkA ?_ _)); exact BK647.out), GW647.out, GE647.out, NB628_647.out, NB647_628.out, NB629_647.out, NB647_629.out, NB638_647.out, NB647_638.out, (by repeat (first | (with_reducible first | exact HB.out | apply bwA | apply pbN | apply bwD | refine bwS ?_ GE628.out | refine bwS ?_ GE629.out | refine bwS ?_ GE638.out | refine bwS ?_ GE647.out) | exact HB.out))⟩)
           ·skip
            refine box_step ?hg (N := 10) ?hd (cs := #[.int .i64 0, .int .i64 0]) (t := 25) ?hr ?_; (case hd => rfl); (case hg => rfl); (case hr => first | (go_simp; done) | (go_simp; rfl))
            intro gb647 hg w61 hbox hb
            have n0_ := Az.mk (Kd.R_below (Kd.R_elderB (by (with_reducible repeat (first | apply Kd.R_alloc | apply Kd.R_drewN | apply Kd.R_drew)); exact HO_8.out) gb647 (Nat.le_of_eq hg.symm)) hb)
            have n1_ := Az.mk (bkB (g := gb628) (o := .cells #[.int .i64 a0_0, .int .i64 a0_1] 25 (0, 0)) (by (with_reducible repeat (first | refine bkN ?_ _ | refine bkD ?_ | refine bkA ?_ _)); exact BK628.out) hb)
            have n2_ := Az.mk (bkB (g := gb629) (o := .cells #[.int .i64 x630000_2, .int .i64 x630001_2] 25 (0, 0)) (by (with_reducible repeat (first | refine bkN ?_ _ | refine bkD ?_ | refine bkA ?_ _)); exact BK629.out) hb)
            have n3_ := Az.mk (bkB (g := gb638) (o := .cells #[.int .i64 t633, .int .i64 t634, .int .i64 t635, .int .i64 t636] 46 (0, 0)) (by (with_reducible repeat (first | refine bkN ?_ _ | refine bkD ?_ | refine bkA ?_ _)); exact BK638.out) hb)
            have n4_ := Az.mk (bwT (by repeat (first | (with_reducible first | exact HB.out | apply bwA | apply pbN | apply bwD | refine bwS ?_ GE628.out | refine bwS ?_ GE629.out | refine bwS ?_ GE638.out) | exact HB.out)) hb)
            have n5_ := Az.mk (hbox)
            have n6_ := Az.mk ((by rw [hg]; exact (bwZ (by repeat (first | (with_reducible first | exact HB.out | apply bwA | apply pbN | apply bwD | refine bwS ?_ GE628.out | refine bwS ?_ GE629.out | refine bwS ?_ GE638.out) | exact HB.out))) : w.heap.size ≤ gb647))
            have n7_ := Az.mk ((by rw [hg]; exact (bwZ (by repeat (first | (with_reducible first | exact HB.out | apply bwA | apply pbN | apply bwD | refine bwS ?_ GE628.out | refine bwS ?_ GE629.out | refine bwS ?_ GE638.out) | exact HB.out))) : w.heap.size ≤ gb647))
            have n8_ := Az.mk ((by rw [hg]; exact Nat.ne_of_lt (blk_lt (g := gb628) (o := .cells #[.int .i64 a0_0, .int .i64 a0_1] 25 (0, 0)) (by (with_reducible repeat (first | refine bkN ?_ _ | refine bkD ?_ | refine bkA ?_ _)); exact BK628.out)) : gb628 ≠ gb647))
            have n9_ := Az.mk ((by rw [hg]; exact Nat.ne_of_gt (blk_lt (g := gb628) (o := .cells #[.int .i64 a0_0, .int .i64 a0_1] 25 (0, 0)) (by (with_reducible repeat (first | refine bkN ?_ _ | refine bkD ?_ | refine bkA ?_ _)); exact BK628.out)) : gb647 ≠ gb628))
            have n10_ := Az.mk ((by rw [hg]; exact Nat.ne_of_lt (blk_lt (g := gb629) (o := .cells #[.int .i64 x630000_2, .int .i64 x630001_2] 25 (0, 0)) (by (with_reducible repeat (first | refine bkN ?_ _ | refine bkD ?_ | refine bkA ?_ _)); exact BK629.out)) : gb629 ≠ gb647))
            have n11_ := Az.mk ((by rw [hg]; exact Nat.ne_of_gt (blk_lt (g := gb629) (o := .cells #[.int .i64 x630000_2, .int .i64 x630001_2] 25 (0, 0)) (by (with_reducible repeat (first | refine bkN ?_ _ | refine bkD ?_ | refine bkA ?_ _)); exact BK629.out)) : gb647 ≠ gb629))
            have n12_ := Az.mk ((by rw [hg]; exact Nat.ne_of_lt (blk_lt (g := gb638) (o := .cells #[.int .i64 t633, .int .i64 t634, .int .i64 t635, .int .i64 t636] 46 (0, 0)) (by (with_reducible repeat (first | refine bkN ?_ _ | refine bkD ?_ | refine bkA ?_ _)); exact BK638.out)) : gb638 ≠ gb647))
            have n13_ := Az.mk ((by rw [hg]; exact Nat.ne_of_gt (blk_lt (g := gb638) (o := .cells #[.int .i64 t633, .int .i64 t634, .int .i64 t635, .int .i64 t636] 46 (0, 0)) (by (with_reducible repeat (first | refine bkN ?_ _ | refine bkD ?_ | refine bkA ?_ _)); exact BK638.out)) : gb647 ≠ gb638))
            clear HO_8
            clear BK628
            clear BK629
            clear BK638
            clear HB
            have HO_8 := n0_
            have BK628 := n1_
            have BK629 := n2_
            have BK638 := n3_
            have HB := n4_
            have BK647 := n5_
            have GW647 := n6_
            have GE647 := n7_
            have NB628_647 := n8_
            have NB647_628 := n9_
            have NB629_647 := n10_
            have NB647_629 := n11_
            have NB638_647 := n12_
            have NB647_638 := n13_
            clear n0_ n1_ n2_ n3_ n4_ n5_ n6_ n7_ n8_ n9_ n10_ n11_ n12_ n13_
            clear hb hbox hg
            refine hK.out _ _ ⟨(bkC BK638.out 0).trans rfl, (bkC BK638.out 1).trans rfl, (bkC BK638.out 2).trans rfl, (bkC BK638.out 3).trans rfl⟩ (fun hHeld => ?_)
            clear hK K
            refine norm_ (a' := ?_) ?_ ?_
            rotate_left
            ·show Act.put _ (some 10) _ = _
             simp only [Act.put, List.setIfInBounds_toArray, List.set_cons_zero, List.set_cons_succ, i64_w, i32_w]
             rfl
            refine one_ (i := 3) (N := some 51) #[true, true, true, true, false, false, false, true, false, false] rfl rfl (one_of HT_.out (by kernel_rfl)) (by decide) (fun K hK => ?_)
            refine goes_ Try.func32 (by kernel_rfl) rfl #[.agg #[.int .i64 t633, .int .i64 t634, .int .i64 t635, .int .i64 t636], .agg #[.int .i64 t642, .int .i64 t643]] (by rfl) rfl rfl (by (try simp only [List.map_toArray, List.map_cons, List.map_nil]); first | done | rfl | (simp only [List.length_drop, List.length_take]; rfl)) ?_
            with_reducible refine (spec_MoveSlope.calls k2 t633 t634 t635 t636 t642 t643 t644 t645 false _ A44.out).mono ?_
            rintro e w62 ⟨rfl, hb⟩
            refine ⟨_, rfl, ?_⟩
            have n0_ := Az.mk (Kd.R_below (by (with_reducible repeat (first | apply Kd.R_alloc | apply Kd.R_drewN | apply Kd.R_drew)); exact HO_8.out) hb)
            have n1_ := Az.mk (bkB (g := gb628) (o := .cells #[.int .i64 a0_0, .int .i64 a0_1] 25 (0, 0)) (by (with_reducible repeat (first | refine bkN ?_ _ | refine bkD ?_ | refine bkA ?_ _)); exact BK628.out) hb)
            have n2_ := Az.mk (bkB (g := gb629) (o := .cells #[.int .i64 x630000_2, .int .i64 x630001_2] 25 (0, 0)) (by (with_reducible repeat (first | refine bkN ?_ _ | refine bkD ?_ | refine bkA ?_ _)); exact BK629.out) hb)
            have n3_ := Az.mk (bkB (g := gb638) (o := .cells #[.int .i64 t633, .int .i64 t634, .int .i64 t635, .int .i64 t636] 46 (0, 0)) (by (with_reducible repeat (first | refine bkN ?_ _ | refine bkD ?_ | refine bkA ?_ _)); exact BK638.out) hb)
            have n4_ := Az.mk (bkB (g := gb647) (o := .cells #[.int .i64 0, .int .i64 0] 25 (0, 0)) (by (with_reducible repeat (first | refine bkN ?_ _ | refine bkD ?_ | refine bkA ?_ _)); exact BK647.out) hb)
            have n5_ := Az.mk (bwT (by repeat (first | (with_reducible first | exact HB.out | apply bwA | apply pbN | apply bwD | refine bwS ?_ GE628.out | refine bwS ?_ GE629.out | refine bwS ?_ GE638.out | refine bwS ?_ GE647.out) | exact HB.out)) hb)
            clear HO_8
            clear BK628
            clear BK629
            clear BK638
            clear BK647
            clear HB
            have HO_8 := n0_
            have BK628 := n1_
            have BK629 := n2_
            have BK638 := n3_
            have BK647 := n4_
            have HB := n5_
            clear n0_ n1_ n2_ n3_ n4_ n5_
            (try clear hb)
            (try clear hb2)
            (try clear hk)
            (try clear hi)
            refine hK.out _ _ ⟨(bkC BK638.out 0).trans rfl, (bkC BK638.out 1).trans rfl, (bkC BK638.out 2).trans rfl, (bkC BK638.out 3).trans rfl⟩ (fun hHeld => ?_)
            clear hK K
            refine norm_ (a' := ?_) ?_ ?_
            rotate_left
            ·show Act.put _ (some 51) _ = _
             simp only [Act.put, List.setIfInBounds_toArray, List.set_cons_zero, List.set_cons_succ, i64_w, i32_w]
             rfl
            refine pure_ (i := 4) (N := some 47) (v := ?_) (a' := ?_) #[true, true, true, true, true, false, false, true, false, false] rfl rfl (any_of HT_.out (by kernel_rfl)) (fun _ _ _ h => h) (Or.inl ⟨by rfl, ?_⟩) ?_ ?_
            rotate_left
            ·intro w'
             go_simp
             with_reducible rfl
            rotate_left
            ·simp only [Act.put, List.setIfInBounds_toArray, List.set_cons_zero, List.set_cons_succ, i64_w, i32_w]
             rfl
            refine pure_ (i := 5) (N := some 52) (v := ?_) (a' := ?_) #[true, true, true, true, true, true, false, true, false, false] rfl rfl (any_of HT_.out (by kernel_rfl)) (fun _ _ _ h => h) (Or.inl ⟨by rfl, ?_⟩) ?_ ?_
            rotate_left
            ·intro w'
             go_simp
             with_reducible rfl
            rotate_left
            ·simp only [Act.put, List.setIfInBounds_toArray, List.set_cons_zero, List.set_cons_succ, i64_w, i32_w]
             rfl
            refine pure_ (i := 6) (N := some 53) (v := ?_) (a' := ?_) #[true, true, true, true, true, true, true, true, false, false] rfl rfl (any_of HT_.out (by kernel_rfl)) (fun _ _ _ h => h) (Or.inl ⟨by rfl, ?_⟩) ?_ ?_
            rotate_left
            ·intro w'
             go_simp
             with_reducible rfl
            rotate_left
            ·simp only [Act.put, List.setIfInBounds_toArray, List.set_cons_zero, List.set_cons_succ, i64_w, i32_w]
             rfl
            exact norm_ (by simp only [putAll, Act.put, List.setIfInBounds_toArray, List.set_cons_zero, List.set_cons_succ]) (hCont (gb647) _ ⟨hHeld, (by (with_reducible repeat (first | apply Kd.R_alloc | apply Kd.R_drewN | apply Kd.R_drew)); exact Kd.R_mono HO_8.out (fun _ hk => ⟨hk.1.1, ⟨hk.1.2, hk.2⟩⟩)), (by (with_reducible repeat (first | refine bkN ?_ _ | refine bkD ?_ | refine bkA ?_ _)); exact BK628.out), (by (with_reducible repeat (first | refine bkN ?_ _ | refine bkD ?_ | refine bkA ?_ _)); exact BK629.out), (by (with_reducible repeat (first | refine bkN ?_ _ | refine bkD ?_ | refine bkA ?_ _)); exact BK638.out), (by (with_reducible repeat (first | refine bkN ?_ _ | refine bkD ?_ | refine bkA ?_ _)); exact BK647.out), GW647.out, GE647.out, NB628_647.out, NB647_628.out, NB629_647.out, NB647_629.out, NB638_647.out, NB647_638.out, (by repeat (first | (with_reducible first | exact HB.out | apply bwA | apply pbN | apply bwD | refine bwS ?_ GE628.out | refine bwS ?_ GE629.out | refine bwS ?_ GE638.out | refine bwS ?_ GE647.out) | exact HB.out))⟩)
          ·skip
           refine box_step ?hg (N := 10) ?hd (cs := #[.int .i64 0, .int .i64 0]) (t := 25) ?hr ?_; (case hd => rfl); (case hg => rfl); (case hr => first | (go_simp; done) | (go_simp; rfl))
           intro gb647 hg w60 hbox hb
           have n0_ := Az.mk (Kd.R_below (Kd.R_elderB (by (with_reducible repeat (first | apply Kd.R_alloc | apply Kd.R_drewN | apply Kd.R_drew)); exact HO_8.out) gb647 (Nat.le_of_eq hg.symm)) hb)
           have n1_ := Az.mk (bkB (g := gb628) (o := .cells #[.int .i64 a0_0, .int .i64 a0_1] 25 (0, 0)) (by (with_reducible repeat (first | refine bkN ?_ _ | refine bkD ?_ | refine bkA ?_ _)); exact BK628.out) hb)
           have n2_ := Az.mk (bkB (g := gb629) (o := .cells #[.int .i64 x630000_2, .int .i64 x630001_2] 25 (0, 0)) (by (with_reducible repeat (first | refine bkN ?_ _ | refine bkD ?_ | refine bkA ?_ _)); exact BK629.out) hb)
           have n3_ := Az.mk (bkB (g := gb638) (o := .cells #[.int .i64 t633, .int .i64 t634, .int .i64 t635, .int .i64 t636] 46 (0, 0)) (by (with_reducible repeat (first | refine bkN ?_ _ | refine bkD ?_ | refine bkA ?_ _)); exact BK638.out) hb)
           have n4_ := Az.mk (bwT (by repeat (first | (with_reducible first | exact HB.out | apply bwA | apply pbN | apply bwD | refine bwS ?_ GE628.out | refine bwS ?_ GE629.out | refine bwS ?_ GE638.out) | exact HB.out)) hb)
           have n5_ := Az.mk (hbox)
           have n6_ := Az.mk ((by rw [hg]; exact (bwZ (by repeat (first | (with_reducible first | exact HB.out | apply bwA | apply pbN | apply bwD | refine bwS ?_ GE628.out | refine bwS ?_ GE629.out | refine bwS ?_ GE638.out) | exact HB.out))) : w.heap.size ≤ gb647))
           have n7_ := Az.mk ((by rw [hg]; exact (bwZ (by repeat (first | (with_reducible first | exact HB.out | apply bwA | apply pbN | apply bwD | refine bwS ?_ GE628.out | refine bwS ?_ GE629.out | refine bwS ?_ GE638.out) | exact HB.out))) : w.heap.size ≤ gb647))
           have n8_ := Az.mk ((by rw [hg]; exact Nat.ne_of_lt (blk_lt (g := gb628) (o := .cells #[.int .i64 a0_0, .int .i64 a0_1] 25 (0, 0)) (by (with_reducible repeat (first | refine bkN ?_ _ | refine bkD ?_ | refine bkA ?_ _)); exact BK628.out)) : gb628 ≠ gb647))
           have n9_ := Az.mk ((by rw [hg]; exact Nat.ne_of_gt (blk_lt (g := gb628) (o := .cells #[.int .i64 a0_0, .int .i64 a0_1] 25 (0, 0)) (by (with_reducible repeat (first | refine bkN ?_ _ | refine bkD ?_ | refine bkA ?_ _)); exact BK628.out)) : gb647 ≠ gb628))
           have n10_ := Az.mk ((by rw [hg]; exact Nat.ne_of_lt (blk_lt (g := gb629) (o := .cells #[.int .i64 x630000_2, .int .i64 x630001_2] 25 (0, 0)) (by (with_reducible repeat (first | refine bkN ?_ _ | refine bkD ?_ | refine bkA ?_ _)); exact BK629.out)) : gb629 ≠ gb647))
           have n11_ := Az.mk ((by rw [hg]; exact Nat.ne_of_gt (blk_lt (g := gb629) (o := .cells #[.int .i64 x630000_2, .int .i64 x630001_2] 25 (0, 0)) (by (with_reducible repeat (first | refine bkN ?_ _ | refine bkD ?_ | refine bkA ?_ _)); exact BK629.out)) : gb647 ≠ gb629))
           have n12_ := Az.mk ((by rw [hg]; exact Nat.ne_of_lt (blk_lt (g := gb638) (o := .cells #[.int .i64 t633, .int .i64 t634, .int .i64 t635, .int .i64 t636] 46 (0, 0)) (by (with_reducible repeat (first | refine bkN ?_ _ | refine bkD ?_ | refine bkA ?_ _)); exact BK638.out)) : gb638 ≠ gb647))
           have n13_ := Az.mk ((by rw [hg]; exact Nat.ne_of_gt (blk_lt (g := gb638) (o := .cells #[.int .i64 t633, .int .i64 t634, .int .i64 t635, .int .i64 t636] 46 (0, 0)) (by (with_reducible repeat (first | refine bkN ?_ _ | refine bkD ?_ | refine bkA ?_ _)); exact BK638.out)) : gb647 ≠ gb638))
           clear HO_8
           clear BK628
           clear BK629
           clear BK638
           clear HB
           have HO_8 := n0_
           have BK628 := n1_
           have BK629 := n2_
           have BK638 := n3_
           have HB := n4_
           have BK647 := n5_
           have GW647 := n6_
           have GE647 := n7_
           have NB628_647 := n8_
           have NB647_628 := n9_
           have NB629_647 := n10_
           have NB647_629 := n11_
           have NB638_647 := n12_
           have NB647_638 := n13_
           clear n0_ n1_ n2_ n3_ n4_ n5_ n6_ n7_ n8_ n9_ n10_ n11_ n12_ n13_
           clear hb hbox hg
           refine hK.out _ _ ⟨(bkC BK638.out 0).trans rfl, (bkC BK638.out 1).trans rfl, (bkC BK638.out 2).trans rfl, (bkC BK638.out 3).trans rfl⟩ (fun hHeld => ?_)
           clear hK K
           refine norm_ (a' := ?_) ?_ ?_
           rotate_left
           ·show Act.put _ (some 10) _ = _
            simp only [Act.put, List.setIfInBounds_toArray, List.set_cons_zero, List.set_cons_succ, i64_w, i32_w]
            rfl
           refine one_ (i := 2) (N := some 50) #[true, true, true, false, false, false, false, true, false, false] rfl rfl (one_of HT_.out (by kernel_rfl)) (by decide) (fun K hK => ?_)
           refine goes_ Try.func68 (by kernel_rfl) rfl #[.int .i64 x9_2] (by rfl) rfl rfl (by (try simp only [List.map_toArray, List.map_cons, List.map_nil]); first | done | rfl | (simp only [List.length_drop, List.length_take]; rfl)) ?_
           with_reducible refine (spec_l17Edge.calls x9_2 t642 t643 _ A43.out).mono ?_
           rintro e w61 ⟨rfl, hb⟩
           refine ⟨_, rfl, ?_⟩
           have n0_ := Az.mk (Kd.R_below (by (with_reducible repeat (first | apply Kd.R_alloc | apply Kd.R_drewN | apply Kd.R_drew)); exact HO_8.out) hb)
           have n1_ := Az.mk (bkB (g := gb628) (o := .cells #[.int .i64 a0_0, .int .i64 a0_1] 25 (0, 0)) (by (with_reducible repeat (first | refine bkN ?_ _ | refine bkD ?_ | refine bkA ?_ _)); exact BK628.out) hb)
           have n2_ := Az.mk (bkB (g := gb629) (o := .cells #[.int .i64 x630000_2, .int .i64 x630001_2] 25 (0, 0)) (by (with_reducible repeat (first | refine bkN ?_ _ | refine bkD ?_ | refine bkA ?_ _)); exact BK629.out) hb)
           have n3_ := Az.mk (bkB (g := gb638) (o := .cells #[.int .i64 t633, .int .i64 t634, .int .i64 t635, .int .i64 t636] 46 (0, 0)) (by (with_reducible repeat (first | refine bkN ?_ _ | refine bkD ?_ | refine bkA ?_ _)); exact BK638.out) hb)
           have n4_ := Az.mk (bkB (g := gb647) (o := .cells #[.int .i64 0, .int .i64 0] 25 (0, 0)) (by (with_reducible repeat (first | refine bkN ?_ _ | refine bkD ?_ | refine bkA ?_ _)); exact BK647.out) hb)
           have n5_ := Az.mk (bwT (by repeat (first | (with_reducible first | exact HB.out | apply bwA | apply pbN | apply bwD | refine bwS ?_ GE628.out | refine bwS ?_ GE629.out | refine bwS ?_ GE638.out | refine bwS ?_ GE647.out) | exact HB.out)) hb)
           clear HO_8
           clear BK628
           clear BK629
           clear BK638
           clear BK647
           clear HB
           have HO_8 := n0_
           have BK628 := n1_
           have BK629 := n2_
           have BK638 := n3_
           have BK647 := n4_
           have HB := n5_
           clear n0_ n1_ n2_ n3_ n4_ n5_
           (try clear hb)
           (try clear hb2)
           (try clear hk)
           (try clear hi)
           refine hK.out _ _ ⟨(bkC BK638.out 0).trans rfl, (bkC BK638.out 1).trans rfl, (bkC BK638.out 2).trans rfl, (bkC BK638.out 3).trans rfl⟩ (fun hHeld => ?_)
           clear hK K
           refine norm_ (a' := ?_) ?_ ?_
           rotate_left
           ·show Act.put _ (some 50) _ = _
            simp only [Act.put, List.setIfInBounds_toArray, List.set_cons_zero, List.set_cons_succ, i64_w, i32_w]
            rfl
           refine one_ (i := 3) (N := some 51) #[true, true, true, true, false, false, false, true, false, false] rfl rfl (one_of HT_.out (by kernel_rfl)) (by decide) (fun K hK => ?_)
           refine goes_ Try.func32 (by kernel_rfl) rfl #[.agg #[.int .i64 t633, .int .i64 t634, .int .i64 t635, .int .i64 t636], .agg #[.int .i64 t642, .int .i64 t643]] (by rfl) rfl rfl (by (try simp only [List.map_toArray, List.map_cons, List.map_nil]); first | done | rfl | (simp only [List.length_drop, List.length_take]; rfl)) ?_
           with_reducible refine (spec_MoveSlope.calls k2 t633 t634 t635 t636 t642 t643 t644 t645 false _ A44.out).mono ?_
           rintro e w62 ⟨rfl, hb⟩
           refine ⟨_, rfl, ?_⟩
           have n0_ := Az.mk (Kd.R_below (by (with_reducible repeat (first | apply Kd.R_alloc | apply Kd.R_drewN | apply Kd.R_drew)); exact HO_8.out) hb)
           have n1_ := Az.mk (bkB (g := gb628) (o := .cells #[.int .i64 a0_0, .int .i64 a0_1] 25 (0, 0)) (by (with_reducible repeat (first | refine bkN ?_ _ | refine bkD ?_ | refine bkA ?_ _)); exact BK628.out) hb)
           have n2_ := Az.mk (bkB (g := gb629) (o := .cells #[.int .i64 x630000_2, .int .i64 x630001_2] 25 (0, 0)) (by (with_reducible repeat (first | refine bkN ?_ _ | refine bkD ?_ | refine bkA ?_ _)); exact BK629.out) hb)
           have n3_ := Az.mk (bkB (g := gb638) (o := .cells #[.int .i64 t633, .int .i64 t634, .int .i64 t635, .int .i64 t636] 46 (0, 0)) (by (with_reducible repeat (first | refine bkN ?_ _ | refine bkD ?_ | refine bkA ?_ _)); exact BK638.out) hb)
           have n4_ := Az.mk (bkB (g := gb647) (o := .cells #[.int .i64 0, .int .i64 0] 25 (0, 0)) (by (with_reducible repeat (first | refine bkN ?_ _ | refine bkD ?_ | refine bkA ?_ _)); exact BK647.out) hb)
           have n5_ := Az.mk (bwT (by repeat (first | (with_reducible first | exact HB.out | apply bwA | apply pbN | apply bwD | refine bwS ?_ GE628.out | refine bwS ?_ GE629.out | refine bwS ?_ GE638.out | refine bwS ?_ GE647.out) | exact HB.out)) hb)
           clear HO_8
           clear BK628
           clear BK629
           clear BK638
           clear BK647
           clear HB
           have HO_8 := n0_
           have BK628 := n1_
           have BK629 := n2_
           have BK638 := n3_
           have BK647 := n4_
           have HB := n5_
           clear n0_ n1_ n2_ n3_ n4_ n5_
           (try clear hb)
           (try clear hb2)
           (try clear hk)
           (try clear hi)
           refine hK.out _ _ ⟨(bkC BK638.out 0).trans rfl, (bkC BK638.out 1).trans rfl, (bkC BK638.out 2).trans rfl, (bkC BK638.out 3).trans rfl⟩ (fun hHeld => ?_)
           clear hK K
           refine norm_ (a' := ?_) ?_ ?_
           rotate_left
           ·show Act.put _ (some 51) _ = _
            simp only [Act.put, List.setIfInBounds_toArray, List.set_cons_zero, List.set_cons_succ, i64_w, i32_w]
            rfl
           refine pure_ (i := 4) (N := some 47) (v := ?_) (a' := ?_) #[true, true, true, true, true, false, false, true, false, false] rfl rfl (any_of HT_.out (by kernel_rfl)) (fun _ _ _ h => h) (Or.inl ⟨by rfl, ?_⟩) ?_ ?_
           rotate_left
           ·intro w'
            go_simp
            with_reducible rfl
           rotate_left
           ·simp only [Act.put, List.setIfInBounds_toArray, List.set_cons_zero, List.set_cons_succ, i64_w, i32_w]
            rfl
           refine pure_ (i := 5) (N := some 52) (v := ?_) (a' := ?_) #[true, true, true, true, true, true, false, true, false, false] rfl rfl (any_of HT_.out (by kernel_rfl)) (fun _ _ _ h => h) (Or.inl ⟨by rfl, ?_⟩) ?_ ?_
           rotate_left
           ·intro w'
            go_simp
            with_reducible rfl
           rotate_left
           ·simp only [Act.put, List.setIfInBounds_toArray, List.set_cons_zero, List.set_cons_succ, i64_w, i32_w]
            rfl
           refine pure_ (i := 6) (N := some 53) (v := ?_) (a' := ?_) #[true, true, true, true, true, true, true, true, false, false] rfl rfl (any_of HT_.out (by kernel_rfl)) (fun _ _ _ h => h) (Or.inl ⟨by rfl, ?_⟩) ?_ ?_
           rotate_left
           ·intro w'
            go_simp
            with_reducible rfl
           rotate_left
           ·simp only [Act.put, List.setIfInBounds_toArray, List.set_cons_zero, List.set_cons_succ, i64_w, i32_w]
            rfl
           exact norm_ (by simp only [putAll, Act.put, List.setIfInBounds_toArray, List.set_cons_zero, List.set_cons_succ]) (hCont (gb647) _ ⟨hHeld, (by (with_reducible repeat (first | apply Kd.R_alloc | apply Kd.R_drewN | apply Kd.R_drew)); exact Kd.R_mono HO_8.out (fun _ hk => ⟨hk.1.1, ⟨hk.1.2, hk.2⟩⟩)), (by (with_reducible repeat (first | refine bkN ?_ _ | refine bkD ?_ | refine bkA ?_ _)); exact BK628.out), (by (with_reducible repeat (first | refine bkN ?_ _ | refine bkD ?_ | refine bkA ?_ _)); exact BK629.out), (by (with_reducible repeat (first | refine bkN ?_ _ | refine bkD ?_ | refine bkA ?_ _)); exact BK638.out), (by (with_reducible repeat (first | refine bkN ?_ _ | refine bkD ?_ | refine bkA ?_ _)); exact BK647.out), GW647.out, GE647.out, NB628_647.out, NB647_628.out, NB629_647.out, NB647_629.out, NB638_647.out, NB647_638.out, (by repeat (first | (with_reducible first | exact HB.out | apply bwA | apply pbN | apply bwD | refine bwS ?_ GE628.out | refine bwS ?_ GE629.out | refine bwS ?_ GE638.out | refine bwS ?_ GE647.out) | exact HB.out))⟩)
         rintro gb647 w63 ⟨hS_, h0_, h1_, h2_, h3_, h4_, h5_, h6_, h7_, h8_, h9_, h10_, h11_, h12_, h13_⟩
         have n0_ : Az (Kd.R k25 25 w63 w.heap.size (fun k_ => k_ ≠ gb628 ∧ k_ ≠ gb629 ∧ k_ ≠ gb647) u8 x8_2) := ⟨h0_⟩
         have n1_ : Az (w63.heap[gb628]? = some (.cells #[.int .i64 a0_0, .int .i64 a0_1] 25 (0, 0))) := ⟨h1_⟩
         have n2_ : Az (w63.heap[gb629]? = some (.cells #[.int .i64 x630000_2, .int .i64 x630001_2] 25 (0, 0))) := ⟨h2_⟩
         have n3_ : Az (w63.heap[gb638]? = some (.cells #[.int .i64 t633, .int .i64 t634, .int .i64 t635, .int .i64 t636] 46 (0, 0))) := ⟨h3_⟩
         have n4_ : Az (w63.heap[gb647]? = some (.cells #[.int .i64 0, .int .i64 0] 25 (0, 0))) := ⟨h4_⟩
         have n5_ : Az (w.heap.size ≤ gb647) := ⟨h5_⟩
         have n6_ : Az (w.heap.size ≤ gb647) := ⟨h6_⟩
         have n7_ : Az (gb628 ≠ gb647) := ⟨h7_⟩
         have n8_ : Az (gb647 ≠ gb628) := ⟨h8_⟩
         have n9_ : Az (gb629 ≠ gb647) := ⟨h9_⟩
         have n10_ : Az (gb647 ≠ gb629) := ⟨h10_⟩
         have n11_ : Az (gb638 ≠ gb647) := ⟨h11_⟩
         have n12_ : Az (gb647 ≠ gb638) := ⟨h12_⟩
         have n13_ : Az (Below w.heap.size w w63) := ⟨h13_⟩
         clear HO_8
         clear BK628
         clear BK629
         clear BK638
         clear HB
         clear h0_ h1_ h2_ h3_ h4_ h5_ h6_ h7_ h8_ h9_ h10_ h11_ h12_ h13_
         have HO_8 := n0_
         have BK628 := n1_
         have BK629 := n2_
         have BK638 := n3_
         have BK647 := n4_
         have GW647 := n5_
         have GE647 := n6_
         have NB628_647 := n7_
         have NB647_628 := n8_
         have NB629_647 := n9_
         have NB647_629 := n10_
         have NB638_647 := n11_
         have NB647_638 := n12_
         have HB := n13_
         clear n0_ n1_ n2_ n3_ n4_ n5_ n6_ n7_ n8_ n9_ n10_ n11_ n12_ n13_
         have hHeld : w63.cell? ⟨gb638, 0, none⟩ = some (.int .i64 t633) ∧ w63.cell? ⟨gb638, 1, none⟩ = some (.int .i64 t634) ∧ w63.cell? ⟨gb638, 2, none⟩ = some (.int .i64 t635) ∧ w63.cell? ⟨gb638, 3, none⟩ = some (.int .i64 t636) := hS_
         refine norm_ (a' := ?_) ?_ ?_
         rotate_left
         ·simp only [putAll, Act.put, List.setIfInBounds_toArray, List.set_cons_zero, List.set_cons_succ]
          rfl
         refine one_ (i := 8) (N := none) #[true, true, true, true, true, true, true, true, true, false] rfl rfl (one_of HT_.out (by kernel_rfl)) (by decide) (fun K hK => ?_)
         have hs64 : w63.cell? ⟨gb647, 0, none⟩ = some (.int .i64 0) := (bkC BK647.out 0).trans rfl
         have hfs64 := bkF BK647.out 0
         have hns64_0 := NB628_647.out
         have hns64_1 := NB629_647.out
         have hns64_2 := NB638_647.out
         have hms64_0 := NB647_628.out
         have hms64_1 := NB647_629.out
         have hms64_2 := NB647_638.out
         have hs65 : w63.cell? ⟨gb647, 1, none⟩ = some (.int .i64 0) := (bkC BK647.out 1).trans rfl
         have hfs65 := bkF BK647.out 1
         have hns65_0 := NB628_647.out
         have hns65_1 := NB629_647.out
         have hns65_2 := NB638_647.out
         have hms65_0 := NB647_628.out
         have hms65_1 := NB647_629.out
         have hms65_2 := NB647_638.out
         refine skip_ (w1 := ?_) (by rfl) rfl ?_ ?_
         rotate_left
         ·go_simp
          rfl
         refine hK.out _ _ ⟨((cell_far (p := ⟨gb647, _, none⟩) NB638_647.out _).trans (((cell_far (p := ⟨gb647, _, none⟩) NB638_647.out _).trans (hHeld.1)))), ((cell_far (p := ⟨gb647, _, none⟩) NB638_647.out _).trans (((cell_far (p := ⟨gb647, _, none⟩) NB638_647.out _).trans (hHeld.2.1)))), ((cell_far (p := ⟨gb647, _, none⟩) NB638_647.out _).trans (((cell_far (p := ⟨gb647, _, none⟩) NB638_647.out _).trans (hHeld.2.2.1)))), ((cell_far (p := ⟨gb647, _, none⟩) NB638_647.out _).trans (((cell_far (p := ⟨gb647, _, none⟩) NB638_647.out _).trans (hHeld.2.2.2))))⟩ (fun hHeld => ?_)
         clear hK K
         refine pure_ (i := 9) (N := some 11) (v := ?_) (a' := ?_) #[true, true, true, true, true, true, true, true, true, true] rfl rfl (any_of HT_.out (by kernel_rfl)) (fun _ _ _ h => h) (Or.inl ⟨by rfl, ?_⟩) ?_ ?_
         rotate_left
         ·intro w'
          go_simp
          with_reducible rfl
         rotate_left
         ·simp only [Act.put, List.setIfInBounds_toArray, List.set_cons_zero, List.set_cons_succ, i64_w, i32_w]
          rfl
         refine done_ (done_of HT_.out (by kernel_rfl)) ?_
         have hnb66 := NB629_628.out
         have hnc66 := NB628_629.out
         have hnb67 := NB629_638.out
         have hnc67 := NB638_629.out
         have hnb68 := NB629_647.out
         have hnc68 := NB647_629.out
         have hcz69_0 : w63.cell? ⟨gb629, 0, none⟩ = some (.int .i64 x630000_2) := (bkC BK629.out 0).trans rfl
         have hcz69_1 : w63.cell? ⟨gb629, 1, none⟩ = some (.int .i64 x630001_2) := (bkC BK629.out 1).trans rfl
         have hfz69_0 := bkF BK629.out 0
         have hfz69_1 := bkF BK629.out 1
         try go_wp2
         refine bodyPost_ret (results_ct rfl _ _ gb629 25 #[.int .i64 0, .int .i64 0] (0, 0) _ rfl (by (with_reducible repeat (first | refine bkN ?_ _ | refine bkD ?_ | refine bkA ?_ _)); refine bkp (cs := #[.int .i64 0, .int .i64 x630001_2]) ?_ 1 _ rfl; (with_reducible repeat (first | refine bkN ?_ _ | refine bkD ?_ | refine bkA ?_ _)); refine bkp (cs := #[.int .i64 x630000_2, .int .i64 x630001_2]) ?_ 0 _ rfl; (with_reducible repeat (first | refine bkN ?_ _ | refine bkD ?_ | refine bkA ?_ _)); refine bkf ?_ NB629_647.out _; (with_reducible repeat (first | refine bkN ?_ _ | refine bkD ?_ | refine bkA ?_ _)); refine bkf ?_ NB629_647.out _; (with_reducible repeat (first | refine bkN ?_ _ | refine bkD ?_ | refine bkA ?_ _)); exact BK629.out) Try.underlying25 rfl (by kernel_rfl)) rfl ?_
         exact ⟨by first | rfl | (simp [eWn, eWs] <;> rfl) | (simp [*, eWn, eWs] <;> rfl), by repeat (first | (with_reducible first | exact HB.out | apply bwA | apply pbN | apply bwD | refine bwS ?_ GE628.out | refine bwS ?_ GE629.out | refine bwS ?_ GE638.out | refine bwS ?_ GE647.out) | exact HB.out)⟩
       ·rw [if_neg c42] at H
        have c42b0 : decide (x9_2 ≤ 3) = false := decide_eq_false c42
        clear c42
        obtain ⟨ji70, hji70⟩ : ∃ j_ : Int, (Int.tmod a1 3) = j_ := ⟨_, rfl⟩
        replace H : (if 0 ≤ (ji70) then (if (ji70) < (x8_2.length : Int) then (if 0 ≤ (Int.tmod (wrap64 (a1 + 1)) 3) then (if (Int.tmod (wrap64 (a1 + 1)) 3) < (x8_2.length : Int) then ((spec_CommonNeighbours.f k2 ((rd_T25 x8_2 (ji70)).f0) ((rd_T25 x8_2 (ji70)).f1) ((rd_T25 x8_2 (Int.tmod (wrap64 (a1 + 1)) 3)).f0) ((rd_T25 x8_2 (Int.tmod (wrap64 (a1 + 1)) 3)).f1)).bind fun t653 => (spec_FlipSlope.l1 k2 a1 x8_2 t653 0)) else (none)) else (none)) else (none)) else (none)) = some (r1, r2, r3) := by first | (rw [hji70] at H; exact H) | (simp only [hji70] at H ⊢; exact H)
        by_cases c71 : 0 ≤ (ji70)
        ·rw [if_pos c71] at H
         have c71b0 : decide (0 ≤ (ji70)) = true := decide_eq_true c71
         clear c71
         by_cases c72 : (ji70) < (x8_2.length : Int)
         ·rw [if_pos c72] at H
          have c72b0 : decide ((ji70) < (x8_2.length : Int)) = true := decide_eq_true c72
          clear c72
          obtain ⟨ji73, hji73⟩ : ∃ j_ : Int, (Int.tmod (wrap64 (a1 + 1)) 3) = j_ := ⟨_, rfl⟩
          replace H : (if 0 ≤ (ji73) then (if (ji73) < (x8_2.length : Int) then ((spec_CommonNeighbours.f k2 ((rd_T25 x8_2 (ji70)).f0) ((rd_T25 x8_2 (ji70)).f1) ((rd_T25 x8_2 (ji73)).f0) ((rd_T25 x8_2 (ji73)).f1)).bind fun t653 => (spec_FlipSlope.l1 k2 a1 x8_2 t653 0)) else (none)) else (none)) = some (r1, r2, r3) := by first | (rw [hji73] at H; exact H) | (simp only [hji73] at H ⊢; exact H)
          by_cases c74 : 0 ≤ (ji73)
          ·rw [if_pos c74] at H
           have c74b0 : decide (0 ≤ (ji73)) = true := decide_eq_true c74
           clear c74
           by_cases c75 : (ji73) < (x8_2.length : Int)
           ·rw [if_pos c75] at H
            have c75b0 : decide ((ji73) < (x8_2.length : Int)) = true := decide_eq_true c75
            clear c75
            replace H := Option.bind_eq_some_iff.mp H
            obtain ⟨t653, A760, H⟩ := H
            replace H : (spec_FlipSlope.l1 k2 a1 x8_2 t653 0) = some (r1, r2, r3) := H
            have A76 := Az.mk A760
            clear A760
            have H' := Az.mk H
            clear H
            try go_wp2
            have n0_ := Az.mk (Kd.R_drew HO_8.out)
            have n1_ := Az.mk (bkD BK628.out)
            have n2_ := Az.mk (bkD BK629.out)
            have n3_ := Az.mk (bkD BK638.out)
            have n4_ := Az.mk (bwD HB.out)
            clear HO_8
            clear BK628
            clear BK629
            clear BK638
            clear HB
            have HO_8 := n0_
            have BK628 := n1_
            have BK629 := n2_
            have BK638 := n3_
            have HB := n4_
            clear n0_ n1_ n2_ n3_ n4_
            obtain ⟨Ao78, co78, eo78⟩ := Kd.R_slice HO_8.out
            (first | subst eo78 | (injection eo78 with f1_ f2_ f3_; have f4_ := f1_.symm; have f5_ := f3_.symm; clear f1_ f2_ f3_; subst f4_; subst f5_))
            have p651 : 0 ≤ ((ji70) : Int) := of_decide_eq_true (by first | (with_reducible assumption) | assumption)
            have q651 : (ji70) < (x8_2.length : Int) := of_decide_eq_true (by first | (with_reducible assumption) | assumption)
            obtain ⟨ad651, e651, hx651_0, hx651_1⟩ := at_T25 (Kd.R_reads' HO_8.out).2.2 (ji70) p651 q651
            cases e651
            replace p651 := eq_true p651
            replace q651 := eq_true q651
            have p652 : 0 ≤ ((ji73) : Int) := of_decide_eq_true (by first | (with_reducible assumption) | assumption)
            have q652 : (ji73) < (x8_2.length : Int) := of_decide_eq_true (by first | (with_reducible assumption) | assumption)
            obtain ⟨ad652, e652, hx652_0, hx652_1⟩ := at_T25 (Kd.R_reads' HO_8.out).2.2 (ji73) p652 q652
            obtain rfl : ad651 = ad652 := (by injection e652)
            replace p652 := eq_true p652
            replace q652 := eq_true q652
            refine start_ (n := 13) (S := fun w' => w'.cell? (ad651.add (((ji70)).toNat * 2)) = some (.int .i64 ((rd_T25 x8_2 (ji70)).f0)) ∧ w'.cell? ⟨(ad651.add (((ji70)).toNat * 2)).block, (ad651.add (((ji70)).toNat * 2)).off + 1, none⟩ = some (.int .i64 ((rd_T25 x8_2 (ji70)).f1)) ∧ w'.cell? (ad651.add (((ji73)).toNat * 2)) = some (.int .i64 ((rd_T25 x8_2 (ji73)).f0)) ∧ w'.cell? ⟨(ad651.add (((ji73)).toNat * 2)).block, (ad651.add (((ji73)).toNat * 2)).off + 1, none⟩ = some (.int .i64 ((rd_T25 x8_2 (ji73)).f1))) (ds := []) #[false, false, false, false, false, false, false, false, false, false, false, false, false] (by kernel_rfl) rfl rfl ⟨hx651_0, hx651_1, hx652_0, hx652_1⟩ (fun hHeld => ?_); refine with_tabW spec_FlipSlope.tab14 spec_FlipSlope.bits14 (fun HT_ HW_ => ?_)
            generalize wr.drew = w77 at HO_8 BK628 BK629 BK638 HB hx651_0 hx651_1 hx652_0 hx652_1 hHeld ⊢
            refine pure_ (i := 0) (N := some 61) (v := ?_) (a' := ?_) #[true, false, false, false, false, false, false, false, false, false, false, false, false] rfl rfl (any_of HT_.out (by kernel_rfl)) (fun _ _ _ h => h) (Or.inl ⟨by rfl, ?_⟩) ?_ ?_
            rotate_left
            ·intro w'
             go_simp
             with_reducible rfl
            rotate_left
            ·simp only [Act.put, List.setIfInBounds_toArray, List.set_cons_zero, List.set_cons_succ, i64_w, i32_w]
             rfl
            refine pure_ (i := 1) (N := some 62) (v := ?_) (a' := ?_) #[true, true, false, false, false, false, false, false, false, false, false, false, false] rfl rfl (any_of HT_.out (by kernel_rfl)) (fun _ _ _ h => h) (Or.inl ⟨by rfl, ?_⟩) ?_ ?_
            rotate_left
            ·intro w'
             go_simp
             with_reducible rfl
            rotate_left
            ·simp only [Act.put, List.setIfInBounds_toArray, List.set_cons_zero, List.set_cons_succ, i64_w, i32_w]
             rfl
            refine pure_ (i := 2) (N := some 63) (v := ?_) (a' := ?_) #[true, true, true, false, false, false, false, false, false, false, false, false, false] rfl rfl (any_of HT_.out (by kernel_rfl)) (fun _ _ _ h => h) (Or.inl ⟨by rfl, ?_⟩) ?_ ?_
            rotate_left
            ·intro w'
             go_simp
             with_reducible rfl
            rotate_left
            ·simp only [Act.put, List.setIfInBounds_toArray, List.set_cons_zero, List.set_cons_succ, i64_w, i32_w]
             rfl
            refine pure_ (i := 3) (N := some 64) (v := ?_) (a' := ?_) #[true, true, true, true, false, false, false, false, false, false, false, false, false] rfl rfl (any_of HT_.out (by kernel_rfl)) (fun _ _ _ h => h) (Or.inl ⟨by rfl, ?_⟩) ?_ ?_
            rotate_left
            ·intro w'
             go_simp
             with_reducible rfl
            rotate_left
            ·simp only [Act.put, List.setIfInBounds_toArray, List.set_cons_zero, List.set_cons_succ, i64_w, i32_w]
             rfl
            refine pure_ (i := 5) (N := some 66) (v := ?_) (a' := ?_) #[true, true, true, true, false, true, false, false, false, false, false, false, false] rfl rfl (any_of HT_.out (by kernel_rfl)) (fun _ _ _ h => h) (Or.inl ⟨by rfl, ?_⟩) ?_ ?_
            rotate_left
            ·intro w'
             go_simp
             with_reducible rfl
            rotate_left
            ·simp only [Act.put, List.setIfInBounds_toArray, List.set_cons_zero, List.set_cons_succ, i64_w, i32_w]
             rfl
            refine pure_ (i := 6) (N := some 67) (v := ?_) (a' := ?_) #[true, true, true, true, false, true, true, false, false, false, false, false, false] rfl rfl (any_of HT_.out (by kernel_rfl)) (fun _ _ _ h => h) (Or.inl ⟨by rfl, ?_⟩) ?_ ?_
            rotate_left
            ·intro w'
             go_simp
             with_reducible rfl
            rotate_left
            ·simp only [Act.put, List.setIfInBounds_toArray, List.set_cons_zero, List.set_cons_succ, i64_w, i32_w]
             rfl
            refine pure_ (i := 7) (N := some 68) (v := ?_) (a' := ?_) #[true, true, true, true, false, true, true, true, false, false, false, false, false] rfl rfl (any_of HT_.out (by kernel_rfl)) (fun _ _ _ h => h) (Or.inl ⟨by rfl, ?_⟩) ?_ ?_
            rotate_left
            ·intro w'
             go_simp
             with_reducible rfl
            rotate_left
            ·simp only [Act.put, List.setIfInBounds_toArray, List.set_cons_zero, List.set_cons_succ, i64_w, i32_w]
             rfl
            refine pure_ (i := 8) (N := some 69) (v := ?_) (a' := ?_) #[true, true, true, true, false, true, true, true, true, false, false, false, false] rfl rfl (any_of HT_.out (by kernel_rfl)) (fun _ _ _ h => h) (Or.inl ⟨by rfl, ?_⟩) ?_ ?_
            rotate_left
            ·intro w'
             go_simp
             with_reducible rfl
            rotate_left
            ·simp only [Act.put, List.setIfInBounds_toArray, List.set_cons_zero, List.set_cons_succ, i64_w, i32_w]
             rfl
            refine pure_ (i := 9) (N := some 70) (v := ?_) (a' := ?_) #[true, true, true, true, false, true, true, true, true, true, false, false, false] rfl rfl (any_of HT_.out (by kernel_rfl)) (fun _ _ _ h => h) (Or.inl ⟨by rfl, ?_⟩) ?_ ?_
            rotate_left
            ·intro w'
             go_simp
             with_reducible rfl
            rotate_left
            ·simp only [Act.put, List.setIfInBounds_toArray, List.set_cons_zero, List.set_cons_succ, i64_w, i32_w]
             rfl
            refine take_ (i := 4) (N := some 65) (v := ?_) (a' := ?_) #[true, true, true, true, true, true, true, true, true, true, false, false, false] rfl rfl (take_ofW HT_.out HW_.out (by kernel_rfl)) (fun _ _ _ h => h) (Or.inl ⟨by rfl, ?_⟩) hHeld ?_ ?_
            rotate_left
            ·rintro w' ⟨s0, s1, s2, s3⟩
             go_simp
             with_reducible rfl
            rotate_left
            ·simp only [Act.put, List.setIfInBounds_toArray, List.set_cons_zero, List.set_cons_succ, i64_w, i32_w]
             rfl
            refine take_ (i := 10) (N := some 71) (v := ?_) (a' := ?_) #[true, true, true, true, true, true, true, true, true, true, true, false, false] rfl rfl (take_ofW HT_.out HW_.out (by kernel_rfl)) (fun _ _ _ h => h) (Or.inl ⟨by rfl, ?_⟩) hHeld ?_ ?_
            rotate_left
            ·rintro w' ⟨s0, s1, s2, s3⟩
             go_simp
             with_reducible rfl
            rotate_left
            ·simp only [Act.put, List.setIfInBounds_toArray, List.set_cons_zero, List.set_cons_succ, i64_w, i32_w]
             rfl
            refine one_ (i := 11) (N := some 72) #[true, true, true, true, true, true, true, true, true, true, true, true, false] rfl rfl (one_of HT_.out (by kernel_rfl)) (by decide) (fun K hK => ?_)
            refine goes_ Try.func28 (by kernel_rfl) rfl #[.agg #[.int .i64 ((rd_T25 x8_2 (ji70)).f0), .int .i64 ((rd_T25 x8_2 (ji70)).f1)], .agg #[.int .i64 ((rd_T25 x8_2 (ji73)).f0), .int .i64 ((rd_T25 x8_2 (ji73)).f1)]] (by rfl) rfl rfl (by (try simp only [List.map_toArray, List.map_cons, List.map_nil]); first | done | (simp only [hji70, hji73]; rfl) | rfl | (simp only [List.length_drop, List.length_take]; rfl)) ?_
            with_reducible refine (spec_CommonNeighbours.calls k2 ((rd_T25 x8_2 (ji70)).f0) ((rd_T25 x8_2 (ji70)).f1) ((rd_T25 x8_2 (ji73)).f0) ((rd_T25 x8_2 (ji73)).f1) t653 _ A76.out).mono ?_
            rintro e w79 ⟨v654, rfl, ho0, hb⟩
            have HS0_ := (hb.cell (World.block_lt_of_cell? _ _ (hHeld.1))).trans (hHeld.1)
            have HS1_ := (hb.cell (World.block_lt_of_cell? _ _ (hHeld.2.1))).trans (hHeld.2.1)
            have HS2_ := (hb.cell (World.block_lt_of_cell? _ _ (hHeld.2.2.1))).trans (hHeld.2.2.1)
            have HS3_ := (hb.cell (World.block_lt_of_cell? _ _ (hHeld.2.2.2))).trans (hHeld.2.2.2)
            refine ⟨_, rfl, ?_⟩
            have n0_ := Az.mk (Kd.R_elder' (by (with_reducible repeat (first | apply Kd.R_alloc | apply Kd.R_drewN | apply Kd.R_drew)); exact HO_8.out) (Kd.R_base ho0) hb)
            have n1_ := Az.mk (Kd.R_lower (Kd.R_newB (Kd.R_newB (Kd.R_new' ho0 (Kd.R_lt (by (with_reducible repeat (first | apply Kd.R_alloc | apply Kd.R_drewN | apply Kd.R_drew)); exact HO_8.out))) (g := gb628) (o := .cells #[.int .i64 a0_0, .int .i64 a0_1] 25 (0, 0)) (by (with_reducible repeat (first | refine bkN ?_ _ | refine bkD ?_ | refine bkA ?_ _)); exact BK628.out)) (g := gb629) (o := .cells #[.int .i64 x630000_2, .int .i64 x630001_2] 25 (0, 0)) (by (with_reducible repeat (first | refine bkN ?_ _ | refine bkD ?_ | refine bkA ?_ _)); exact BK629.out)) (bwZ (by repeat (first | (with_reducible first | exact HB.out | apply bwA | apply pbN | apply bwD | refine bwS ?_ GE628.out | refine bwS ?_ GE629.out | refine bwS ?_ GE638.out) | exact HB.out))))
            have n2_ := Az.mk (bkB (g := gb628) (o := .cells #[.int .i64 a0_0, .int .i64 a0_1] 25 (0, 0)) (by (with_reducible repeat (first | refine bkN ?_ _ | refine bkD ?_ | refine bkA ?_ _)); exact BK628.out) hb)
            have n3_ := Az.mk (bkB (g := gb629) (o := .cells #[.int .i64 x630000_2, .int .i64 x630001_2] 25 (0, 0)) (by (with_reducible repeat (first | refine bkN ?_ _ | refine bkD ?_ | refine bkA ?_ _)); exact BK629.out) hb)
            have n4_ := Az.mk (bkB (g := gb638) (o := .cells #[.int .i64 t633, .int .i64 t634, .int .i64 t635, .int .i64 t636] 46 (0, 0)) (by (with_reducible repeat (first | refine bkN ?_ _ | refine bkD ?_ | refine bkA ?_ _)); exact BK638.out) hb)
            have n5_ := Az.mk (bwT (by repeat (first | (with_reducible first | exact HB.out | apply bwA | apply pbN | apply bwD | refine bwS ?_ GE628.out | refine bwS ?_ GE629.out | refine bwS ?_ GE638.out) | exact HB.out)) hb)
            clear HO_8
            clear BK628
            clear BK629
            clear BK638
            clear HB
            have HO_8 := n0_
            have HO655 := n1_
            have BK628 := n2_
            have BK629 := n3_
            have BK638 := n4_
            have HB := n5_
            clear n0_ n1_ n2_ n3_ n4_ n5_
            (try clear hb)
            (try clear hb2)
            (try clear hk)
            (try clear hi)
            (try clear ho0)
            refine hK.out _ _ ⟨HS0_, HS1_, HS2_, HS3_⟩ (fun hHeld => ?_)
            clear hK K
            refine norm_ (a' := ?_) ?_ ?_
            rotate_left
            ·show Act.put _ (some 72) _ = _
             simp only [Act.put, List.setIfInBounds_toArray, List.set_cons_zero, List.set_cons_succ, i64_w, i32_w]
             rfl
            refine pure_ (i := 12) (N := some 12) (v := ?_) (a' := ?_) #[true, true, true, true, true, true, true, true, true, true, true, true, true] rfl rfl (any_of HT_.out (by kernel_rfl)) (fun _ _ _ h => h) (Or.inl ⟨by rfl, ?_⟩) ?_ ?_
            rotate_left
            ·intro w'
             go_simp
             with_reducible rfl
            rotate_left
            ·simp only [Act.put, List.setIfInBounds_toArray, List.set_cons_zero, List.set_cons_succ, i64_w, i32_w]
             rfl
            refine done_ (done_of HT_.out (by kernel_rfl)) ?_
            try go_wp2
            go_loopg [13] k2 (fun kq v13 w' => ∃ (x13_3 : Int) (x630000_3 : Int) (x630001_3 : Int), v13 = .int .i64 x13_3 ∧ Az (spec_FlipSlope.l1 kq a1 x8_2 t653 x13_3 = some (r1, r2, r3)) ∧ Az (kq ≤ k2) ∧ Az (Kd.R k25 25 w' w.heap.size (fun k_ => some k_ ≠ (v654 : Value).ownBlock ∧ k_ ≠ gb628 ∧ k_ ≠ gb629) (.slice (some ad651) x8_2.length co78) x8_2) ∧ Az (Kd.R k25 25 w' w.heap.size (fun k_ => some k_ ≠ ((.slice (some ad651) x8_2.length co78) : Value).ownBlock ∧ k_ ≠ gb628 ∧ k_ ≠ gb629) v654 t653) ∧ Az (w'.heap[gb628]? = some (.cells #[.int .i64 a0_0, .int .i64 a0_1] 25 (0, 0))) ∧ Az (w'.heap[gb629]? = some (.cells #[.int .i64 x630000_3, .int .i64 x630001_3] 25 (0, 0))) ∧ Az (w'.heap[gb638]? = some (.cells #[.int .i64 t633, .int .i64 t634, .int .i64 t635, .int .i64 t636] 46 (0, 0))) ∧ Az (Below w.heap.size w w'))
            case atStart => exact ⟨(0), (x630000_2), (x630001_2), (by first | rfl | (simp; done) | (simp [*]; done)), H', ⟨Nat.le_refl _⟩, ⟨by (with_reducible repeat (first | apply Kd.R_alloc | apply Kd.R_drewN | apply Kd.R_drew)); exact Kd.R_mono HO_8.out (fun _ hk => ⟨hk.2, ⟨hk.1.1, hk.1.2⟩⟩)⟩, ⟨by (with_reducible repeat (first | apply Kd.R_alloc | apply Kd.R_drewN | apply Kd.R_drew)); exact Kd.R_mono HO655.out (fun _ hk => ⟨hk.1.1.2, ⟨hk.1.2, hk.2⟩⟩)⟩, ⟨by (with_reducible repeat (first | refine bkN ?_ _ | refine bkD ?_ | refine bkA ?_ _)); exact BK628.out⟩, ⟨by (with_reducible repeat (first | refine bkN ?_ _ | refine bkD ?_ | refine bkA ?_ _)); exact BK629.out⟩, ⟨by (with_reducible repeat (first | refine bkN ?_ _ | refine bkD ?_ | refine bkA ?_ _)); exact BK638.out⟩, ⟨by repeat (first | (with_reducible first | exact HB.out | apply bwA | apply pbN | apply bwD | refine bwS ?_ GE628.out | refine bwS ?_ GE629.out | refine bwS ?_ GE638.out) | exact HB.out)⟩⟩
            case round =>
             clear H'
             try clear c2
             try clear p2
             try clear c3
             try clear c4
             try clear c6
             try clear p6
             try clear q6
             try clear hx6
             try clear c7
             try clear c28
             try clear c32
             try clear c42
             try clear c42b0
             try clear p64
             try clear p65
             try clear q65
             try clear hx65
             try clear c66
             try clear c67
             try clear c68
             try clear c71
             try clear c71b0
             try clear c72
             try clear c72b0
             try clear c74
             try clear c74b0
             try clear c75
             try clear c75b0
             try clear hcz69_0
             try clear hcz69_1
             try clear hfz69_0
             try clear hfz69_1
             try clear hx651_0
             try clear hx651_1
             try clear hx652_0
             try clear hx652_1
             try clear p651
             try clear p652
             try clear q651
             try clear q652
             obtain ⟨x13_3, x630000_3, x630001_3, rfl, HA, HK3, HO_8, HO_12, BK628, BK629, BK638, HB⟩ := hrel
             cases gk with
             | zero => exact absurd HA.out (by simp [spec_FlipSlope.l1])
             | succ k3 =>
              have H := HA.out
              clear HA
              simp only [spec_FlipSlope.l1] at H
              by_cases c80 : x13_3 < (t653.length : Int)
              ·rw [if_pos c80] at H
               have c80b0 : decide (x13_3 < (t653.length : Int)) = true := decide_eq_true c80
               clear c80
               by_cases c81 : 0 ≤ x13_3
               ·rw [if_pos c81] at H
                have c81b0 : decide (0 ≤ x13_3) = true := decide_eq_true c81
                clear c81
                obtain ⟨ji82, hji82⟩ : ∃ j_ : Int, (wrap64 (a1 - 1)) = j_ := ⟨_, rfl⟩
                replace H : (if 0 ≤ (ji82) then (if (ji82) < (x8_2.length : Int) then (if (!(((rd_T25 t653 x13_3).f0) == ((rd_T25 x8_2 (ji82)).f0)) || (!(((rd_T25 t653 x13_3).f1) == ((rd_T25 x8_2 (ji82)).f1)))) = true then (some ((rd_T25 t653 x13_3).f0, (rd_T25 t653 x13_3).f1, true)) else (spec_FlipSlope.l1 k3 a1 x8_2 t653 (wrap64 (x13_3 + 1)))) else (none)) else (none)) = some (r1, r2, r3) := by first | (rw [hji82] at H; exact H) | (simp only [hji82] at H ⊢; exact H)
                have hji82w : (IntKind.i64.wrap (a1 - 1)) = ji82 := (i64_w _).trans hji82
                by_cases c83 : 0 ≤ (ji82)
                ·rw [if_pos c83] at H
                 have c83b0 : decide (0 ≤ (ji82)) = true := decide_eq_true c83
                 clear c83
                 by_cases c84 : (ji82) < (x8_2.length : Int)
                 ·rw [if_pos c84] at H
                  have c84b0 : decide ((ji82) < (x8_2.length : Int)) = true := decide_eq_true c84
                  clear c84
                  by_cases c85 : (!(((rd_T25 t653 x13_3).f0) == ((rd_T25 x8_2 (ji82)).f0)) || (!(((rd_T25 t653 x13_3).f1) == ((rd_T25 x8_2 (ji82)).f1)))) = true
                  ·rw [if_pos c85] at H
                   have c85b0 : (!(((rd_T25 t653 x13_3).f0) == ((rd_T25 x8_2 (ji82)).f0)) || (!(((rd_T25 t653 x13_3).f1) == ((rd_T25 x8_2 (ji82)).f1)))) = true := c85
                   clear c85
                   simp only [Option.some.injEq, Prod.mk.injEq] at H
                   obtain ⟨rfl, rfl, rfl⟩ := H
                   obtain ⟨Ao86, co86, eo86⟩ := Kd.R_slice HO_12.out
                   subst eo86
                   try go_wp2
                   have n0_ := Az.mk (Kd.R_drew HO_8.out)
                   have n1_ := Az.mk (Kd.R_drew HO_12.out)
                   have n2_ := Az.mk (bkD BK628.out)
                   have n3_ := Az.mk (bkD BK629.out)
                   have n4_ := Az.mk (bkD BK638.out)
                   have n5_ := Az.mk (bwD HB.out)
                   clear HO_8
                   clear HO_12
                   clear BK628
                   clear BK629
                   clear BK638
                   clear HB
                   have HO_8 := n0_
                   have HO_12 := n1_
                   have BK628 := n2_
                   have BK629 := n3_
                   have BK638 := n4_
                   have HB := n5_
                   clear n0_ n1_ n2_ n3_ n4_ n5_
                   have p656 : 0 ≤ (x13_3 : Int) := of_decide_eq_true (by first | (with_reducible assumption) | assumption)
                   have q656 : x13_3 < (t653.length : Int) := of_decide_eq_true (by first | (with_reducible assumption) | assumption)
                   obtain ⟨ad656, e656, hx656_0, hx656_1⟩ := at_T25 (Kd.R_reads' HO_12.out).2.2 x13_3 p656 q656
                   cases e656
                   replace p656 := eq_true p656
                   replace q656 := eq_true q656
                   have p657 : 0 ≤ ((ji82) : Int) := of_decide_eq_true (by first | (with_reducible assumption) | assumption)
                   have q657 : (ji82) < (x8_2.length : Int) := of_decide_eq_true (by first | (with_reducible assumption) | assumption)
                   obtain ⟨ad657, e657, hx657_0, hx657_1⟩ := at_T25 (Kd.R_reads' HO_8.out).2.2 (ji82) p657 q657
                   obtain rfl : ad651 = ad657 := (by injection e657)
                   replace p657 := eq_true p657
                   replace q657 := eq_true q657
                   refine start_ (n := 10) (S := fun w' => w'.cell? (ad656.add ((x13_3).toNat * 2)) = some (.int .i64 ((rd_T25 t653 x13_3).f0)) ∧ w'.cell? ⟨(ad656.add ((x13_3).toNat * 2)).block, (ad656.add ((x13_3).toNat * 2)).off + 1, none⟩ = some (.int .i64 ((rd_T25 t653 x13_3).f1)) ∧ w'.cell? (ad651.add (((ji82)).toNat * 2)) = some (.int .i64 ((rd_T25 x8_2 (ji82)).f0)) ∧ w'.cell? ⟨(ad651.add (((ji82)).toNat * 2)).block, (ad651.add (((ji82)).toNat * 2)).off + 1, none⟩ = some (.int .i64 ((rd_T25 x8_2 (ji82)).f1))) (ds := []) #[false, false, false, false, false, false, false, false, false, false] (by kernel_rfl) rfl rfl ⟨hx656_0, hx656_1, hx657_0, hx657_1⟩ (fun hHeld => ?_); refine with_tabW spec_FlipSlope.tab18 spec_FlipSlope.bits18 (fun HT_ HW_ => ?_)
                   generalize wr.drew = w87 at HO_8 HO_12 BK628 BK629 BK638 HB hx656_0 hx656_1 hx657_0 hx657_1 hHeld ⊢
                   refine pure_ (i := 0) (N := some 79) (v := ?_) (a' := ?_) #[true, false, false, false, false, false, false, false, false, false] rfl rfl (any_of HT_.out (by kernel_rfl)) (fun _ _ _ h => h) (Or.inl ⟨by rfl, ?_⟩) ?_ ?_
                   rotate_left
                   ·intro w'
                    go_simp
                    with_reducible rfl
                   rotate_left
                   ·simp only [Act.put, List.setIfInBounds_toArray, List.set_cons_zero, List.set_cons_succ, i64_w, i32_w]
                    rfl
                   refine pure_ (i := 1) (N := some 80) (v := ?_) (a' := ?_) #[true, true, false, false, false, false, false, false, false, false] rfl rfl (any_of HT_.out (by kernel_rfl)) (fun _ _ _ h => h) (Or.inl ⟨by rfl, ?_⟩) ?_ ?_
                   rotate_left
                   ·intro w'
                    go_simp
                    with_reducible rfl
                   rotate_left
                   ·simp only [Act.put, List.setIfInBounds_toArray, List.set_cons_zero, List.set_cons_succ, i64_w, i32_w]
                    rfl
                   refine pure_ (i := 2) (N := some 81) (v := ?_) (a' := ?_) #[true, true, true, false, false, false, false, false, false, false] rfl rfl (any_of HT_.out (by kernel_rfl)) (fun _ _ _ h => h) (Or.inl ⟨by rfl, ?_⟩) ?_ ?_
                   rotate_left
                   ·intro w'
                    go_simp
                    with_reducible rfl
                   rotate_left
                   ·simp only [Act.put, List.setIfInBounds_toArray, List.set_cons_zero, List.set_cons_succ, i64_w, i32_w]
                    rfl
                   refine pure_ (i := 4) (N := some 83) (v := ?_) (a' := ?_) #[true, true, true, false, true, false, false, false, false, false] rfl rfl (any_of HT_.out (by kernel_rfl)) (fun _ _ _ h => h) (Or.inl ⟨by rfl, ?_⟩) ?_ ?_
                   rotate_left
                   ·intro w'
                    go_simp
                    with_reducible rfl
                   rotate_left
                   ·simp only [Act.put, List.setIfInBounds_toArray, List.set_cons_zero, List.set_cons_succ, i64_w, i32_w]
                    rfl
                   refine pure_ (i := 5) (N := some 84) (v := ?_) (a' := ?_) #[true, true, true, false, true, true, false, false, false, false] rfl rfl (any_of HT_.out (by kernel_rfl)) (fun _ _ _ h => h) (Or.inl ⟨by rfl, ?_⟩) ?_ ?_
                   rotate_left
                   ·intro w'
                    go_simp
                    with_reducible rfl
                   rotate_left
                   ·simp only [Act.put, List.setIfInBounds_toArray, List.set_cons_zero, List.set_cons_succ, i64_w, i32_w]
                    rfl
                   refine pure_ (i := 6) (N := some 85) (v := ?_) (a' := ?_) #[true, true, true, false, true, true, true, false, false, false] rfl rfl (any_of HT_.out (by kernel_rfl)) (fun _ _ _ h => h) (Or.inl ⟨by rfl, ?_⟩) ?_ ?_
                   rotate_left
                   ·intro w'
                    go_simp
                    with_reducible rfl
                   rotate_left
                   ·simp only [Act.put, List.setIfInBounds_toArray, List.set_cons_zero, List.set_cons_succ, i64_w, i32_w]
                    rfl
                   refine pure_ (i := 7) (N := some 86) (v := ?_) (a' := ?_) #[true, true, true, false, true, true, true, true, false, false] rfl rfl (any_of HT_.out (by kernel_rfl)) (fun _ _ _ h => h) (Or.inl ⟨by rfl, ?_⟩) ?_ ?_
                   rotate_left
                   ·intro w'
                    go_simp
                    with_reducible rfl
                   rotate_left
                   ·simp only [Act.put, List.setIfInBounds_toArray, List.set_cons_zero, List.set_cons_succ, i64_w, i32_w]
                    rfl
                   refine take_ (i := 3) (N := some 82) (v := ?_) (a' := ?_) #[true, true, true, true, true, true, true, true, false, false] rfl rfl (take_ofW HT_.out HW_.out (by kernel_rfl)) (fun _ _ _ h => h) (Or.inl ⟨by rfl, ?_⟩) hHeld ?_ ?_
                   rotate_left
                   ·rintro w' ⟨s0, s1, s2, s3⟩
                    go_simp
                    with_reducible rfl
                   rotate_left
                   ·simp only [Act.put, List.setIfInBounds_toArray, List.set_cons_zero, List.set_cons_succ, i64_w, i32_w]
                    rfl
                   refine take_ (i := 8) (N := some 87) (v := ?_) (a' := ?_) #[true, true, true, true, true, true, true, true, true, false] rfl rfl (take_ofW HT_.out HW_.out (by kernel_rfl)) (fun _ _ _ h => h) (Or.inl ⟨by rfl, ?_⟩) hHeld ?_ ?_
                   rotate_left
                   ·rintro w' ⟨s0, s1, s2, s3⟩
                    go_simp
                    with_reducible rfl
                   rotate_left
                   ·simp only [Act.put, List.setIfInBounds_toArray, List.set_cons_zero, List.set_cons_succ, i64_w, i32_w]
                    rfl
                   refine pure_ (i := 9) (N := some 88) (v := ?_) (a' := ?_) #[true, true, true, true, true, true, true, true, true, true] rfl rfl (any_of HT_.out (by kernel_rfl)) (fun _ _ _ h => h) (Or.inl ⟨by rfl, ?_⟩) ?_ ?_
                   rotate_left
                   ·intro w'
                    go_simp
                    with_reducible rfl
                   rotate_left
                   ·simp only [Act.put, List.setIfInBounds_toArray, List.set_cons_zero, List.set_cons_succ, i64_w, i32_w]
                    rfl
                   refine done_ (done_of HT_.out (by kernel_rfl)) ?_
                   have p658 : 0 ≤ (x13_3 : Int) := of_decide_eq_true (by first | (with_reducible assumption) | assumption)
                   have q658 : x13_3 < (t653.length : Int) := of_decide_eq_true (by first | (with_reducible assumption) | assumption)
                   obtain ⟨ad658, e658, hx658_0, hx658_1⟩ := at_T25 (Kd.R_reads' HO_12.out).2.2 x13_3 p658 q658
                   obtain rfl : ad656 = ad658 := (by injection e658)
                   replace p658 := eq_true p658
                   replace q658 := eq_true q658
                   have hnb88 := NB629_628.out
                   have hnc88 := NB628_629.out
                   have hnb89 := NB629_638.out
                   have hnc89 := NB638_629.out
                   have hcz90_0 : w87.cell? ⟨gb629, 0, none⟩ = some (.int .i64 x630000_3) := (bkC BK629.out 0).trans rfl
                   have hcz90_1 : w87.cell? ⟨gb629, 1, none⟩ = some (.int .i64 x630001_3) := (bkC BK629.out 1).trans rfl
                   have hfz90_0 := bkF BK629.out 0
                   have hfz90_1 := bkF BK629.out 1
                   try go_wp2
                   refine bodyPost_ret (results_ct rfl _ _ gb629 25 #[.int .i64 ((rd_T25 t653 x13_3).f0), .int .i64 ((rd_T25 t653 x13_3).f1)] (0, 0) _ rfl (by (with_reducible repeat (first | refine bkN ?_ _ | refine bkD ?_ | refine bkA ?_ _)); refine bkp (cs := #[.int .i64 ((rd_T25 t653 x13_3).f0), .int .i64 x630001_3]) ?_ 1 _ rfl; (with_reducible repeat (first | refine bkN ?_ _ | refine bkD ?_ | refine bkA ?_ _)); refine bkp (cs := #[.int .i64 x630000_3, .int .i64 x630001_3]) ?_ 0 _ rfl; (with_reducible repeat (first | refine bkN ?_ _ | refine bkD ?_ | refine bkA ?_ _)); exact BK629.out) Try.underlying25 rfl (by kernel_rfl)) rfl ?_
                   exact ⟨by first | rfl | (simp [eWn, eWs] <;> rfl) | (simp only [← hji70, ← hji73, ← hji82]; first | rfl | (simp [eWn, eWs] <;> rfl)) | (simp [*, eWn, eWs] <;> rfl), by repeat (first | (with_reducible first | exact HB.out | apply bwA | apply pbN | apply bwD | refine bwS ?_ GE628.out | refine bwS ?_ GE629.out | refine bwS ?_ GE638.out) | exact HB.out)⟩
                  ·rw [if_neg c85] at H
                   have c85b0 : (!(((rd_T25 t653 x13_3).f0) == ((rd_T25 x8_2 (ji82)).f0)) || (!(((rd_T25 t653 x13_3).f1) == ((rd_T25 x8_2 (ji82)).f1)))) = false := by simpa using c85
                   clear c85
                   have H' := Az.mk H
                   clear H
                   obtain ⟨Ao91, co91, eo91⟩ := Kd.R_slice HO_12.out
                   subst eo91
                   try go_wp2
                   have n0_ := Az.mk (Kd.R_drew HO_8.out)
                   have n1_ := Az.mk (Kd.R_drew HO_12.out)
                   have n2_ := Az.mk (bkD BK628.out)
                   have n3_ := Az.mk (bkD BK629.out)
                   have n4_ := Az.mk (bkD BK638.out)
                   have n5_ := Az.mk (bwD HB.out)
                   clear HO_8
                   clear HO_12
                   clear BK628
                   clear BK629
                   clear BK638
                   clear HB
                   have HO_8 := n0_
                   have HO_12 := n1_
                   have BK628 := n2_
                   have BK629 := n3_
                   have BK638 := n4_
                   have HB := n5_
                   clear n0_ n1_ n2_ n3_ n4_ n5_
                   have p656 : 0 ≤ (x13_3 : Int) := of_decide_eq_true (by first | (with_reducible assumption) | assumption)
                   have q656 : x13_3 < (t653.length : Int) := of_decide_eq_true (by first | (with_reducible assumption) | assumption)
                   obtain ⟨ad656, e656, hx656_0, hx656_1⟩ := at_T25 (Kd.R_reads' HO_12.out).2.2 x13_3 p656 q656
                   cases e656
                   replace p656 := eq_true p656
                   replace q656 := eq_true q656
                   have p657 : 0 ≤ ((ji82) : Int) := of_decide_eq_true (by first | (with_reducible assumption) | assumption)
                   have q657 : (ji82) < (x8_2.length : Int) := of_decide_eq_true (by first | (with_reducible assumption) | assumption)
                   obtain ⟨ad657, e657, hx657_0, hx657_1⟩ := at_T25 (Kd.R_reads' HO_8.out).2.2 (ji82) p657 q657
                   obtain rfl : ad651 = ad657 := (by injection e657)
                   replace p657 := eq_true p657
                   replace q657 := eq_true q657
                   refine start_ (n := 10) (S := fun w' => w'.cell? (ad656.add ((x13_3).toNat * 2)) = some (.int .i64 ((rd_T25 t653 x13_3).f0)) ∧ w'.cell? ⟨(ad656.add ((x13_3).toNat * 2)).block, (ad656.add ((x13_3).toNat * 2)).off + 1, none⟩ = some (.int .i64 ((rd_T25 t653 x13_3).f1)) ∧ w'.cell? (ad651.add (((ji82)).toNat * 2)) = some (.int .i64 ((rd_T25 x8_2 (ji82)).f0)) ∧ w'.cell? ⟨(ad651.add (((ji82)).toNat * 2)).block, (ad651.add (((ji82)).toNat * 2)).off + 1, none⟩ = some (.int .i64 ((rd_T25 x8_2 (ji82)).f1))) (ds := []) #[false, false, false, false, false, false, false, false, false, false] (by kernel_rfl) rfl rfl ⟨hx656_0, hx656_1, hx657_0, hx657_1⟩ (fun hHeld => ?_); refine with_tabW spec_FlipSlope.tab18 spec_FlipSlope.bits18 (fun HT_ HW_ => ?_)
                   generalize wr.drew = w92 at HO_8 HO_12 BK628 BK629 BK638 HB hx656_0 hx656_1 hx657_0 hx657_1 hHeld ⊢
                   refine pure_ (i := 0) (N := some 79) (v := ?_) (a' := ?_) #[true, false, false, false, false, false, false, false, false, false] rfl rfl (any_of HT_.out (by kernel_rfl)) (fun _ _ _ h => h) (Or.inl ⟨by rfl, ?_⟩) ?_ ?_
                   rotate_left
                   ·intro w'
                    go_simp
                    with_reducible rfl
                   rotate_left
                   ·simp only [Act.put, List.setIfInBounds_toArray, List.set_cons_zero, List.set_cons_succ, i64_w, i32_w]
                    rfl
                   refine pure_ (i := 1) (N := some 80) (v := ?_) (a' := ?_) #[true, true, false, false, false, false, false, false, false, false] rfl rfl (any_of HT_.out (by kernel_rfl)) (fun _ _ _ h => h) (Or.inl ⟨by rfl, ?_⟩) ?_ ?_
                   rotate_left
                   ·intro w'
                    go_simp
                    with_reducible rfl
                   rotate_left
                   ·simp only [Act.put, List.setIfInBounds_toArray, List.set_cons_zero, List.set_cons_succ, i64_w, i32_w]
                    rfl
                   refine pure_ (i := 2) (N := some 81) (v := ?_) (a' := ?_) #[true, true, true, false, false, false, false, false, false, false] rfl rfl (any_of HT_.out (by kernel_rfl)) (fun _ _ _ h => h) (Or.inl ⟨by rfl, ?_⟩) ?_ ?_
                   rotate_left
                   ·intro w'
                    go_simp
                    with_reducible rfl
                   rotate_left
                   ·simp only [Act.put, List.setIfInBounds_toArray, List.set_cons_zero, List.set_cons_succ, i64_w, i32_w]
                    rfl
                   refine pure_ (i := 4) (N := some 83) (v := ?_) (a' := ?_) #[true, true, true, false, true, false, false, false, false, false] rfl rfl (any_of HT_.out (by kernel_rfl)) (fun _ _ _ h => h) (Or.inl ⟨by rfl, ?_⟩) ?_ ?_
                   rotate_left
                   ·intro w'
                    go_simp
                    with_reducible rfl
                   rotate_left
                   ·simp only [Act.put, List.setIfInBounds_toArray, List.set_cons_zero, List.set_cons_succ, i64_w, i32_w]
                    rfl
                   refine pure_ (i := 5) (N := some 84) (v := ?_) (a' := ?_) #[true, true, true, false, true, true, false, false, false, false] rfl rfl (any_of HT_.out (by kernel_rfl)) (fun _ _ _ h => h) (Or.inl ⟨by rfl, ?_⟩) ?_ ?_
                   rotate_left
                   ·intro w'
                    go_simp
                    with_reducible rfl
                   rotate_left
                   ·simp only [Act.put, List.setIfInBounds_toArray, List.set_cons_zero, List.set_cons_succ, i64_w, i32_w]
                    rfl
                   refine pure_ (i := 6) (N := some 85) (v := ?_) (a' := ?_) #[true, true, true, false, true, true, true, false, false, false] rfl rfl (any_of HT_.out (by kernel_rfl)) (fun _ _ _ h => h) (Or.inl ⟨by rfl, ?_⟩) ?_ ?_
                   rotate_left
                   ·intro w'
                    go_simp
                    with_reducible rfl
                   rotate_left
                   ·simp only [Act.put, List.setIfInBounds_toArray, List.set_cons_zero, List.set_cons_succ, i64_w, i32_w]
                    rfl
                   refine pure_ (i := 7) (N := some 86) (v := ?_) (a' := ?_) #[true, true, true, false, true, true, true, true, false, false] rfl rfl (any_of HT_.out (by kernel_rfl)) (fun _ _ _ h => h) (Or.inl ⟨by rfl, ?_⟩) ?_ ?_
                   rotate_left
                   ·intro w'
                    go_simp
                    with_reducible rfl
                   rotate_left
                   ·simp only [Act.put, List.setIfInBounds_toArray, List.set_cons_zero, List.set_cons_succ, i64_w, i32_w]
                    rfl
                   refine take_ (i := 3) (N := some 82) (v := ?_) (a' := ?_) #[true, true, true, true, true, true, true, true, false, false] rfl rfl (take_ofW HT_.out HW_.out (by kernel_rfl)) (fun _ _ _ h => h) (Or.inl ⟨by rfl, ?_⟩) hHeld ?_ ?_
                   rotate_left
                   ·rintro w' ⟨s0, s1, s2, s3⟩
                    go_simp
                    with_reducible rfl
                   rotate_left
                   ·simp only [Act.put, List.setIfInBounds_toArray, List.set_cons_zero, List.set_cons_succ, i64_w, i32_w]
                    rfl
                   refine take_ (i := 8) (N := some 87) (v := ?_) (a' := ?_) #[true, true, true, true, true, true, true, true, true, false] rfl rfl (take_ofW HT_.out HW_.out (by kernel_rfl)) (fun _ _ _ h => h) (Or.inl ⟨by rfl, ?_⟩) hHeld ?_ ?_
                   rotate_left
                   ·rintro w' ⟨s0, s1, s2, s3⟩
                    go_simp
                    with_reducible rfl
                   rotate_left
                   ·simp only [Act.put, List.setIfInBounds_toArray, List.set_cons_zero, List.set_cons_succ, i64_w, i32_w]
                    rfl
                   refine pure_ (i := 9) (N := some 88) (v := ?_) (a' := ?_) #[true, true, true, true, true, true, true, true, true, true] rfl rfl (any_of HT_.out (by kernel_rfl)) (fun _ _ _ h => h) (Or.inl ⟨by rfl, ?_⟩) ?_ ?_
                   rotate_left
                   ·intro w'
                    go_simp
                    with_reducible rfl
                   rotate_left
                   ·simp only [Act.put, List.setIfInBounds_toArray, List.set_cons_zero, List.set_cons_succ, i64_w, i32_w]
                    rfl
                   refine done_ (done_of HT_.out (by kernel_rfl)) ?_
                   try go_wp2
                   go_roundg k3
                   case measure => have := HJ2.out; have := HK2.out; have := HK3.out; omega
                   case rel => exact ⟨(wrap64 (x13_3 + 1)), (x630000_3), (x630001_3), (by first | rfl | (simp; done) | (simp [*]; done)), H', ⟨by have := HJ2.out; have := HK2.out; have := HK3.out; omega⟩, ⟨by (with_reducible repeat (first | apply Kd.R_alloc | apply Kd.R_drewN | apply Kd.R_drew)); exact HO_8.out⟩, ⟨by (with_reducible repeat (first | apply Kd.R_alloc | apply Kd.R_drewN | apply Kd.R_drew)); exact HO_12.out⟩, ⟨by (with_reducible repeat (first | refine bkN ?_ _ | refine bkD ?_ | refine bkA ?_ _)); exact BK628.out⟩, ⟨by (with_reducible repeat (first | refine bkN ?_ _ | refine bkD ?_ | refine bkA ?_ _)); exact BK629.out⟩, ⟨by (with_reducible repeat (first | refine bkN ?_ _ | refine bkD ?_ | refine bkA ?_ _)); exact BK638.out⟩, ⟨by repeat (first | (with_reducible first | exact HB.out | apply bwA | apply pbN | apply bwD | refine bwS ?_ GE628.out | refine bwS ?_ GE629.out | refine bwS ?_ GE638.out) | exact HB.out)⟩⟩
                 ·rw [if_neg c84] at H
                  exact absurd H (by simp)
                ·rw [if_neg c83] at H
                 exact absurd H (by simp)
               ·rw [if_neg c81] at H
                exact absurd H (by simp)
              ·rw [if_neg c80] at H
               have c80b0 : decide (x13_3 < (t653.length : Int)) = false := decide_eq_false c80
               clear c80
               simp only [Option.some.injEq, Prod.mk.injEq] at H
               obtain ⟨rfl, rfl, rfl⟩ := H
               obtain ⟨Ao93, co93, eo93⟩ := Kd.R_slice HO_12.out
               subst eo93
               have hnb94 := NB629_628.out
               have hnc94 := NB628_629.out
               have hnb95 := NB629_638.out
               have hnc95 := NB638_629.out
               have hcz96_0 : wr.cell? ⟨gb629, 0, none⟩ = some (.int .i64 x630000_3) := (bkC BK629.out 0).trans rfl
               have hcz96_1 : wr.cell? ⟨gb629, 1, none⟩ = some (.int .i64 x630001_3) := (bkC BK629.out 1).trans rfl
               have hfz96_0 := bkF BK629.out 0
               have hfz96_1 := bkF BK629.out 1
               go_wp2
               refine bodyPost_ret (results_ct rfl _ _ gb629 25 #[.int .i64 0, .int .i64 0] (0, 0) _ rfl (by (with_reducible repeat (first | refine bkN ?_ _ | refine bkD ?_ | refine bkA ?_ _)); refine bkp (cs := #[.int .i64 0, .int .i64 x630001_3]) ?_ 1 _ rfl; (with_reducible repeat (first | refine bkN ?_ _ | refine bkD ?_ | refine bkA ?_ _)); refine bkp (cs := #[.int .i64 x630000_3, .int .i64 x630001_3]) ?_ 0 _ rfl; (with_reducible repeat (first | refine bkN ?_ _ | refine bkD ?_ | refine bkA ?_ _)); exact BK629.out) Try.underlying25 rfl (by kernel_rfl)) rfl ?_
               exact ⟨by first | rfl | (simp [eWn, eWs] <;> rfl) | (simp only [← hji70, ← hji73]; first | rfl | (simp [eWn, eWs] <;> rfl)) | (simp [*, eWn, eWs] <;> rfl), by repeat (first | (with_reducible first | exact HB.out | apply bwA | apply pbN | apply bwD | refine bwS ?_ GE628.out | refine bwS ?_ GE629.out | refine bwS ?_ GE638.out) | exact HB.out)⟩
           ·rw [if_neg c75] at H
            exact absurd H (by simp)
          ·rw [if_neg c74] at H
           exact absurd H (by simp)
         ·rw [if_neg c72] at H
          exact absurd H (by simp)
        ·rw [if_neg c71] at H
         exact absurd H (by simp)
    ·replace c31 := Bool.eq_false_iff.mpr c31
     subst c31
     have H1 : (some (0, 0, false)) = some (r1, r2, r3) := by rw [if_neg (show ¬ (false = true) by decide)] at H; exact H
     clear H
     have H := H1
     clear H1
     simp only [Option.some.injEq, Prod.mk.injEq] at H
     obtain ⟨rfl, rfl, rfl⟩ := H
     have hnb97 := NB628_629.out
     have hnc97 := NB629_628.out
     have hcz98_0 : wc.cell? ⟨gb628, 0, none⟩ = some (.int .i64 a0_0) := (bkC BK628.out 0).trans rfl
     have hcz98_1 : wc.cell? ⟨gb628, 1, none⟩ = some (.int .i64 a0_1) := (bkC BK628.out 1).trans rfl
     have hfz98_0 := bkF BK628.out 0
     have hfz98_1 := bkF BK628.out 1
     go_wp2_with (first | ((with_reducible refine gtC (f := 67) rfl ?_); refine goesL_ (some 35) rfl rfl Try.func67 (by kernel_rfl) rfl #[.agg #[.int .i64 a0_0, .int .i64 a0_1]] rfl (by (try simp only [List.map_toArray, List.map_cons, List.map_nil]); first | done | rfl | (simp only [List.length_drop, List.length_take]; rfl)) ?_; (with_reducible refine (spec_TurnsTo.calls kj2 a0_0 a0_1 t632 _ A29.out).mono ?_); rintro e w99 ⟨rfl, hb⟩; refine ⟨_, rfl, ?_⟩; have n0_ := Az.mk (bkB (g := gb628) (o := .cells #[.int .i64 a0_0, .int .i64 a0_1] 25 (0, 0)) (by (with_reducible repeat (first | refine bkN ?_ _ | refine bkD ?_ | refine bkA ?_ _)); exact BK628.out) hb); have n1_ := Az.mk (bkB (g := gb629) (o := .cells #[.int .i64 0, .int .i64 0] 25 (0, 0)) (by (with_reducible repeat (first | refine bkN ?_ _ | refine bkD ?_ | refine bkA ?_ _)); exact BK629.out) hb); have n2_ := Az.mk (bwT (by repeat (first | (with_reducible first | exact HB.out | apply bwA | apply pbN | apply bwD | refine bwS ?_ GE628.out | refine bwS ?_ GE629.out) | exact HB.out)) hb); clear BK628; clear BK629; clear HB; have BK628 := n0_; have BK629 := n1_; have HB := n2_; clear n0_ n1_ n2_; (try clear hb); (try clear hb2); (try clear hk); (try clear hi)) | ((with_reducible refine gtC (f := 66) rfl ?_); refine goesL_ (some 36) rfl rfl Try.func66 (by kernel_rfl) rfl #[.string t632] rfl (by (try simp only [List.map_toArray, List.map_cons, List.map_nil]); first | done | rfl | (simp only [List.length_drop, List.length_take]; rfl)) ?_; (with_reducible refine (spec_TurnsOf.calls kj2 t632 t633 t634 t635 t636 false _ A30.out).mono ?_); rintro e w100 ⟨rfl, hb⟩; refine ⟨_, rfl, ?_⟩; have n0_ := Az.mk (bkB (g := gb628) (o := .cells #[.int .i64 a0_0, .int .i64 a0_1] 25 (0, 0)) (by (with_reducible repeat (first | refine bkN ?_ _ | refine bkD ?_ | refine bkA ?_ _)); exact BK628.out) hb); have n1_ := Az.mk (bkB (g := gb629) (o := .cells #[.int .i64 0, .int .i64 0] 25 (0, 0)) (by (with_reducible repeat (first | refine bkN ?_ _ | refine bkD ?_ | refine bkA ?_ _)); exact BK629.out) hb); have n2_ := Az.mk (bwT (by repeat (first | (with_reducible first | exact HB.out | apply bwA | apply pbN | apply bwD | refine bwS ?_ GE628.out | refine bwS ?_ GE629.out) | exact HB.out)) hb); clear BK628; clear BK629; clear HB; have BK628 := n0_; have BK629 := n1_; have HB := n2_; clear n0_ n1_ n2_; (try clear hb); (try clear hb2); (try clear hk); (try clear hi)) | ((with_reducible refine gtD (N := 6) rfl ?_); refine bxE ?hg (N := 6) ?hd (cs := #[.int .i64 0, .int .i64 0, .int .i64 0, .int .i64 0]) (t := 46) ?hr ?_; (case hd => rfl); (case hg => rfl); (case hr => first | (go_simp; done) | (go_simp; rfl)); intro gb638 hg w101 hbox hb; have n0_ := Az.mk (bkB (g := gb628) (o := .cells #[.int .i64 a0_0, .int .i64 a0_1] 25 (0, 0)) (by (with_reducible repeat (first | refine bkN ?_ _ | refine bkD ?_ | refine bkA ?_ _)); exact BK628.out) hb); have n1_ := Az.mk (bkB (g := gb629) (o := .cells #[.int .i64 0, .int .i64 0] 25 (0, 0)) (by (with_reducible repeat (first | refine bkN ?_ _ | refine bkD ?_ | refine bkA ?_ _)); exact BK629.out) hb); have n2_ := Az.mk (bwT (by repeat (first | (with_reducible first | exact HB.out | apply bwA | apply pbN | apply bwD | refine bwS ?_ GE628.out | refine bwS ?_ GE629.out) | exact HB.out)) hb); have n3_ := Az.mk (hbox); have n4_ := Az.mk ((by rw [hg]; exact (bwZ (by repeat (first | (with_reducible first | exact HB.out | apply bwA | apply pbN | apply bwD | refine bwS ?_ GE628.out | refine bwS ?_ GE629.out) | exact HB.out))) : w.heap.size ≤ gb638)); have n5_ := Az.mk ((by rw [hg]; exact (bwZ (by repeat (first | (with_reducible first | exact HB.out | apply bwA | apply pbN | apply bwD | refine bwS ?_ GE628.out | refine bwS ?_ GE629.out) | exact HB.out))) : w.heap.size ≤ gb638)); have n6_ := Az.mk ((by rw [hg]; exact Nat.ne_of_lt (blk_lt (g := gb628) (o := .cells #[.int .i64 a0_0, .int .i64 a0_1] 25 (0, 0)) (by (with_reducible repeat (first | refine bkN ?_ _ | refine bkD ?_ | refine bkA ?_ _)); exact BK628.out)) : gb628 ≠ gb638)); have n7_ := Az.mk ((by rw [hg]; exact Nat.ne_of_gt (blk_lt (g := gb628) (o := .cells #[.int .i64 a0_0, .int .i64 a0_1] 25 (0, 0)) (by (with_reducible repeat (first | refine bkN ?_ _ | refine bkD ?_ | refine bkA ?_ _)); exact BK628.out)) : gb638 ≠ gb628)); have n8_ := Az.mk ((by rw [hg]; exact Nat.ne_of_lt (blk_lt (g := gb629) (o := .cells #[.int .i64 0, .int .i64 0] 25 (0, 0)) (by (with_reducible repeat (first | refine bkN ?_ _ | refine bkD ?_ | refine bkA ?_ _)); exact BK629.out)) : gb629 ≠ gb638)); have n9_ := Az.mk ((by rw [hg]; exact Nat.ne_of_gt (blk_lt (g := gb629) (o := .cells #[.int .i64 0, .int .i64 0] 25 (0, 0)) (by (with_reducible repeat (first | refine bkN ?_ _ | refine bkD ?_ | refine bkA ?_ _)); exact BK629.out)) : gb638 ≠ gb629)); clear BK628; clear BK629; clear HB; have BK628 := n0_; have BK629 := n1_; have HB := n2_; have BK638 := n3_; have GW638 := n4_; have GE638 := n5_; have NB628_638 := n6_; have NB638_628 := n7_; have NB629_638 := n8_; have NB638_629 := n9_; clear n0_ n1_ n2_ n3_ n4_ n5_ n6_ n7_ n8_ n9_; clear hb hbox hg; have hnb102 := NB638_628.out; have hnc102 := NB628_638.out; have hnb103 := NB638_629.out; have hnc103 := NB629_638.out; have hcz104_0 : w101.cell? ⟨gb638, 0, none⟩ = some (.int .i64 0) := (bkC BK638.out 0).trans rfl; have hcz104_1 : w101.cell? ⟨gb638, 1, none⟩ = some (.int .i64 0) := (bkC BK638.out 1).trans rfl; have hcz104_2 : w101.cell? ⟨gb638, 2, none⟩ = some (.int .i64 0) := (bkC BK638.out 2).trans rfl; have hcz104_3 : w101.cell? ⟨gb638, 3, none⟩ = some (.int .i64 0) := (bkC BK638.out 3).trans rfl; have hfz104_0 := bkF BK638.out 0; have hfz104_1 := bkF BK638.out 1; have hfz104_2 := bkF BK638.out 2; have hfz104_3 := bkF BK638.out 3; have hcz105_0 : w101.cell? ⟨gb629, 0, none⟩ = some (.int .i64 0) := (bkC BK629.out 0).trans rfl; have hcz105_1 : w101.cell? ⟨gb629, 1, none⟩ = some (.int .i64 0) := (bkC BK629.out 1).trans rfl; have hfz105_0 := bkF BK629.out 0; have hfz105_1 := bkF BK629.out 1))
     refine bodyPost_ret (results_ct rfl _ _ gb629 25 #[.int .i64 0, .int .i64 0] (0, 0) _ rfl (by (with_reducible repeat (first | refine bkN ?_ _ | refine bkD ?_ | refine bkA ?_ _)); refine bkp (cs := #[.int .i64 0, .int .i64 0]) ?_ 1 _ rfl; (with_reducible repeat (first | refine bkN ?_ _ | refine bkD ?_ | refine bkA ?_ _)); refine bkp (cs := #[.int .i64 0, .int .i64 0]) ?_ 0 _ rfl; (with_reducible repeat (first | refine bkN ?_ _ | refine bkD ?_ | refine bkA ?_ _)); refine bkf ?_ NB629_638.out _; (with_reducible repeat (first | refine bkN ?_ _ | refine bkD ?_ | refine bkA ?_ _)); refine bkf ?_ NB629_638.out _; (with_reducible repeat (first | refine bkN ?_ _ | refine bkD ?_ | refine bkA ?_ _)); refine bkf ?_ NB629_638.out _; (with_reducible repeat (first | refine bkN ?_ _ | refine bkD ?_ | refine bkA ?_ _)); refine bkf ?_ NB629_638.out _; (with_reducible repeat (first | refine bkN ?_ _ | refine bkD ?_ | refine bkA ?_ _)); exact BK629.out) Try.underlying25 rfl (by kernel_rfl)) rfl ?_
     exact ⟨by first | rfl | (simp [eWn, eWs] <;> rfl) | (simp [*, eWn, eWs] <;> rfl), by repeat (first | (with_reducible first | exact HB.out | apply bwA | apply pbN | apply bwD | refine bwS ?_ GE628.out | refine bwS ?_ GE629.out | refine bwS ?_ GE638.out) | exact HB.out)⟩

end Go.Proofs.Ytbnjcebmnamfjaa.P
