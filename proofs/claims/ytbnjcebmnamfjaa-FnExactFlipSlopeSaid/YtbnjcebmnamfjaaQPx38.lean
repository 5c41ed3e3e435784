-- By this session's driver (wip/tools/mk.py) of the kit's print program, over several statements at once. Not trusted: Lean checks it.
import Derived.Test.YtbnjcebmnamfjaaQPx0
import Derived.Test.YtbnjcebmnamfjaaQPx1
import Derived.Test.YtbnjcebmnamfjaaQPx2
import Derived.Test.YtbnjcebmnamfjaaQPx18
import Derived.Test.YtbnjcebmnamfjaaQPx22
import Derived.Test.YtbnjcebmnamfjaaQPx36
import Derived.Test.YtbnjcebmnamfjaaQPx37
namespace Go.Proofs.Ytbnjcebmnamfjaa.P
open Go.RowKit Go.Proofs.YtbnjcebmnamfjaaW.PrintWords Go.Proofs.YtbnjcebmnamfjaaW.PrintLast Go.Proofs.YtbnjcebmnamfjaaW.PrintMore
attribute [local go_sem] max2_int min2_int max_two min_two max_three min_three max_four min_four   -- for this text's walks alone
set_option linter.unusedVariables false
set_option linter.unusedSimpArgs false

attribute [local go_sem high] eqA25
/-! ### impl_FlipSlope: function 36 -/
mutual
def impl_FlipSlope.j0 : Nat → Int → Bool → Int → Int → Option (Int × Int × Bool)
 | 0, _, _, _, _ => none
 | k + 1, x1, x32, x706000, x706001 => if x32 = true then (some (0, 0, false)) else ((impl_TurnsTo.f k x706000 x706001).bind fun t709 => ((impl_TurnsOf.f k t709).bind fun bt710 => (if bt710.2.2.2.2 = true then ((impl_edgeSlopes.f).bind fun t719 => (impl_FlipSlope.l0 k x1 (([] : List (S25))) t719 (t719.length : Int) 0 bt710.1 bt710.2.1 bt710.2.2.1 bt710.2.2.2.1)) else (some (0, 0, false)))))
def impl_FlipSlope.l0 : Nat → Int → List (S25) → List (S25) → Int → Int → Int → Int → Int → Int → Option (Int × Int × Bool)
 | 0, _, _, _, _, _, _, _, _, _ => none
 | k + 1, x1, x8, x44, x45, x46, x716000, x716001, x716002, x716003 => if x46 < x45 then (if 0 ≤ x46 then (if x46 < (x44.length : Int) then ((impl_MoveSlope.f k x716000 x716001 x716002 x716003 ((rd_T25 x44 x46).f0) ((rd_T25 x44 x46).f1)).bind fun bt724 => (if bt724.2.2 = true then (if x8.length < 8796093022208 then (impl_FlipSlope.l0 k x1 (x8 ++ [(⟨bt724.1, bt724.2.1⟩ : S25)]) x44 x45 (wrap64 (x46 + 1)) x716000 x716001 x716002 x716003) else (none)) else (some (0, 0, false)))) else (none)) else (none)) else (if 0 ≤ (Int.tmod x1 3) then (if (Int.tmod x1 3) < (x8.length : Int) then (if 0 ≤ (Int.tmod (wrap64 (x1 + 1)) 3) then (if (Int.tmod (wrap64 (x1 + 1)) 3) < (x8.length : Int) then ((impl_CommonNeighbours.f k ((rd_T25 x8 (Int.tmod x1 3)).f0) ((rd_T25 x8 (Int.tmod x1 3)).f1) ((rd_T25 x8 (Int.tmod (wrap64 (x1 + 1)) 3)).f0) ((rd_T25 x8 (Int.tmod (wrap64 (x1 + 1)) 3)).f1)).bind fun t733 => (impl_FlipSlope.l1 k x1 x8 t733 (t733.length : Int) 0)) else (none)) else (none)) else (none)) else (none))
def impl_FlipSlope.l1 : Nat → Int → List (S25) → List (S25) → Int → Int → Option (Int × Int × Bool)
 | 0, _, _, _, _, _ => none
 | k + 1, x1, x8, x75, x76, x77 => if x77 < x76 then (if 0 ≤ x77 then (if x77 < (x75.length : Int) then (if 0 ≤ (wrap64 (x1 - 1)) then (if (wrap64 (x1 - 1)) < (x8.length : Int) then (if (!(((rd_T25 x75 x77).f0) == ((rd_T25 x8 (wrap64 (x1 - 1))).f0)) || (!(((rd_T25 x75 x77).f1) == ((rd_T25 x8 (wrap64 (x1 - 1))).f1)))) = true then (some ((rd_T25 x75 x77).f0, (rd_T25 x75 x77).f1, true)) else (impl_FlipSlope.l1 k x1 x8 x75 x76 (wrap64 (x77 + 1)))) else (none)) else (none)) else (none)) else (none)) else (some (0, 0, false))
end
def impl_FlipSlope.f (k : Nat) (a0_0 : Int) (a0_1 : Int) (a1 : Int) : Option (Int × Int × Bool) := (impl_IsSlope.f k a0_0 a0_1).bind fun t707 => (if t707 = true then (if a0_0 < 1 then (impl_FlipSlope.j0 k a1 true a0_0 a0_1) else (if a0_1 < 1 then (impl_FlipSlope.j0 k a1 true a0_0 a0_1) else ((impl_within.f a1 1 3).bind fun t708 => (impl_FlipSlope.j0 k a1 (!t708) a0_0 a0_1)))) else (impl_FlipSlope.j0 k a1 true a0_0 a0_1))
theorem impl_FlipSlope.mono_l : ∀ k, (∀ y0 y1 y2 y3, LeO (impl_FlipSlope.j0 k y0 y1 y2 y3) (impl_FlipSlope.j0 (k + 1) y0 y1 y2 y3)) ∧ (∀ y0 y1 y2 y3 y4 y5 y6 y7 y8, LeO (impl_FlipSlope.l0 k y0 y1 y2 y3 y4 y5 y6 y7 y8) (impl_FlipSlope.l0 (k + 1) y0 y1 y2 y3 y4 y5 y6 y7 y8)) ∧ (∀ y0 y1 y2 y3 y4, LeO (impl_FlipSlope.l1 k y0 y1 y2 y3 y4) (impl_FlipSlope.l1 (k + 1) y0 y1 y2 y3 y4))
 | 0 => ⟨fun _ _ _ _ r h => by simp [impl_FlipSlope.j0] at h, fun _ _ _ _ _ _ _ _ _ r h => by simp [impl_FlipSlope.l0] at h, fun _ _ _ _ _ r h => by simp [impl_FlipSlope.l1] at h⟩
 | k + 1 => by
  obtain ⟨ih0, ih1, ih2⟩ := impl_FlipSlope.mono_l k
  refine ⟨?_, ?_, ?_⟩
  ·intro y0 y1 y2 y3
   unfold impl_FlipSlope.j0
   repeat' first
   | (with_reducible exact ih0 _ _ _ _)
   | (with_reducible exact ih1 _ _ _ _ _ _ _ _ _)
   | (with_reducible exact ih2 _ _ _ _ _)
   | (with_reducible exact impl_CommonNeighbours.mono _ _ _ _ _)
   | (with_reducible exact impl_IsSlope.mono _ _ _)
   | (with_reducible exact impl_MoveSlope.mono _ _ _ _ _ _ _)
   | (with_reducible exact impl_TurnsOf.mono _ _)
   | (with_reducible exact impl_TurnsTo.mono _ _ _)
   | (with_reducible exact LeO.refl _)
   | (with_reducible exact LeO.none _)
   | (with_reducible refine LeO.ite ?_ ?_)
   | (with_reducible refine LeO.bind ?_ (fun _ => ?_))
   | exact ih0 _ _ _ _
   | exact ih1 _ _ _ _ _ _ _ _ _
   | exact ih2 _ _ _ _ _
   | exact impl_CommonNeighbours.mono _ _ _ _ _
   | exact impl_IsSlope.mono _ _ _
   | exact impl_MoveSlope.mono _ _ _ _ _ _ _
   | exact impl_TurnsOf.mono _ _
   | exact impl_TurnsTo.mono _ _ _
   | exact LeO.none _
   | refine LeO.ite ?_ ?_
   | refine LeO.bind ?_ (fun _ => ?_)
  ·intro y0 y1 y2 y3 y4 y5 y6 y7 y8
   unfold impl_FlipSlope.l0
   repeat' first
   | (with_reducible exact ih0 _ _ _ _)
   | (with_reducible exact ih1 _ _ _ _ _ _ _ _ _)
   | (with_reducible exact ih2 _ _ _ _ _)
   | (with_reducible exact impl_CommonNeighbours.mono _ _ _ _ _)
   | (with_reducible exact impl_IsSlope.mono _ _ _)
   | (with_reducible exact impl_MoveSlope.mono _ _ _ _ _ _ _)
   | (with_reducible exact impl_TurnsOf.mono _ _)
   | (with_reducible exact impl_TurnsTo.mono _ _ _)
   | (with_reducible exact LeO.refl _)
   | (with_reducible exact LeO.none _)
   | (with_reducible refine LeO.ite ?_ ?_)
   | (with_reducible refine LeO.bind ?_ (fun _ => ?_))
   | exact ih0 _ _ _ _
   | exact ih1 _ _ _ _ _ _ _ _ _
   | exact ih2 _ _ _ _ _
   | exact impl_CommonNeighbours.mono _ _ _ _ _
   | exact impl_IsSlope.mono _ _ _
   | exact impl_MoveSlope.mono _ _ _ _ _ _ _
   | exact impl_TurnsOf.mono _ _
   | exact impl_TurnsTo.mono _ _ _
   | exact LeO.none _
   | refine LeO.ite ?_ ?_
   | refine LeO.bind ?_ (fun _ => ?_)
  ·intro y0 y1 y2 y3 y4
   unfold impl_FlipSlope.l1
   repeat' first
   | (with_reducible exact ih0 _ _ _ _)
   | (with_reducible exact ih1 _ _ _ _ _ _ _ _ _)
   | (with_reducible exact ih2 _ _ _ _ _)
   | (with_reducible exact impl_CommonNeighbours.mono _ _ _ _ _)
   | (with_reducible exact impl_IsSlope.mono _ _ _)
   | (with_reducible exact impl_MoveSlope.mono _ _ _ _ _ _ _)
   | (with_reducible exact impl_TurnsOf.mono _ _)
   | (with_reducible exact impl_TurnsTo.mono _ _ _)
   | (with_reducible exact LeO.refl _)
   | (with_reducible exact LeO.none _)
   | (with_reducible refine LeO.ite ?_ ?_)
   | (with_reducible refine LeO.bind ?_ (fun _ => ?_))
   | exact ih0 _ _ _ _
   | exact ih1 _ _ _ _ _ _ _ _ _
   | exact ih2 _ _ _ _ _
   | exact impl_CommonNeighbours.mono _ _ _ _ _
   | exact impl_IsSlope.mono _ _ _
   | exact impl_MoveSlope.mono _ _ _ _ _ _ _
   | exact impl_TurnsOf.mono _ _
   | exact impl_TurnsTo.mono _ _ _
   | exact LeO.none _
   | refine LeO.ite ?_ ?_
   | refine LeO.bind ?_ (fun _ => ?_)
theorem impl_FlipSlope.mono : ∀ a0 a1 a2 k, LeO (impl_FlipSlope.f k a0 a1 a2) (impl_FlipSlope.f (k + 1) a0 a1 a2) := by
 intro a0 a1 a2 k
 obtain ⟨ih0, ih1, ih2⟩ := impl_FlipSlope.mono_l k
 unfold impl_FlipSlope.f
 repeat' first
   | (with_reducible exact ih0 _ _ _ _)
   | (with_reducible exact ih1 _ _ _ _ _ _ _ _ _)
   | (with_reducible exact ih2 _ _ _ _ _)
   | (with_reducible exact impl_CommonNeighbours.mono _ _ _ _ _)
   | (with_reducible exact impl_IsSlope.mono _ _ _)
   | (with_reducible exact impl_MoveSlope.mono _ _ _ _ _ _ _)
   | (with_reducible exact impl_TurnsOf.mono _ _)
   | (with_reducible exact impl_TurnsTo.mono _ _ _)
   | (with_reducible exact LeO.refl _)
   | (with_reducible exact LeO.none _)
   | (with_reducible refine LeO.ite ?_ ?_)
   | (with_reducible refine LeO.bind ?_ (fun _ => ?_))
   | exact ih0 _ _ _ _
   | exact ih1 _ _ _ _ _ _ _ _ _
   | exact ih2 _ _ _ _ _
   | exact impl_CommonNeighbours.mono _ _ _ _ _
   | exact impl_IsSlope.mono _ _ _
   | exact impl_MoveSlope.mono _ _ _ _ _ _ _
   | exact impl_TurnsOf.mono _ _
   | exact impl_TurnsTo.mono _ _ _
   | exact LeO.none _
   | refine LeO.ite ?_ ?_
   | refine LeO.bind ?_ (fun _ => ?_)
def impl_FlipSlope.T15 : Bool × List (List Nat × List Nat) := (true, [([], []), ([], []), ([1], [1]), ([0, 2], [0, 2]), ([3], [3]), ([], []), ([], []), ([6], [6]), ([7], [7]), ([5, 8], [5, 8]), ([9], [9]), ([4, 10], [4, 10]), ([11], [11]), ([], [])])
def impl_FlipSlope.B15 : List Nat := [0, 0, 2, 7, 15, 0, 0, 64, 192, 480, 992, 2047, 4095, 0]
theorem impl_FlipSlope.tab15 : rtab .any (opsOf Try.f36 15) = impl_FlipSlope.T15 := by kernel_rfl
theorem impl_FlipSlope.bits15 : waitsOk impl_FlipSlope.T15.2 impl_FlipSlope.B15 = true := by kernel_rfl
set_option maxHeartbeats 8000000 in
set_option maxRecDepth 100000 in
theorem impl_FlipSlope.calls (k : Nat) (a0_0 : Int) (a0_1 : Int) (a1 : Int) (r1 : Int) (r2 : Int) (r3 : Bool) (w : World) (h : impl_FlipSlope.f k a0_0 a0_1 a1 = some (r1, r2, r3)) :
  Calls Try.prog 36 #[.agg #[.int .i64 a0_0, .int .i64 a0_1], .int .i64 a1] w fun e w' => e = .returned (.tuple #[.agg #[.int .i64 r1, .int .i64 r2], .bool r3]) ∧ Below w.heap.size w w' := by
 have hu25 := Try.underlying25
 have hu46 := Try.underlying46
 have HB := Az.mk (Below.refl w.heap.size w)
 have H : ((impl_IsSlope.f k a0_0 a0_1).bind fun t707 => (if t707 = true then (if a0_0 < 1 then (impl_FlipSlope.j0 k a1 true a0_0 a0_1) else (if a0_1 < 1 then (impl_FlipSlope.j0 k a1 true a0_0 a0_1) else ((impl_within.f a1 1 3).bind fun t708 => (impl_FlipSlope.j0 k a1 (!t708) a0_0 a0_1)))) else (impl_FlipSlope.j0 k a1 true a0_0 a0_1))) = some (r1, r2, r3) := h
 clear h
 have HC3 := Az.mk H
 clear H
 go_enter Try.func36, Try.ntmps36
 go_upto_region 1 with (first | ((with_reducible refine gtD (N := 2) rfl ?_); refine bxE ?hg (N := 2) ?hd (cs := #[.int .i64 a0_0, .int .i64 a0_1]) (t := 25) ?hr ?_; (case hd => rfl); (case hg => rfl); (case hr => first | (go_simp; done) | (go_simp; rfl)); intro gb705 hg w4 hbox hb; have n0_ := Az.mk (bwT (by repeat (first | (with_reducible first | exact HB.out | apply bwA | apply pbN | apply bwD) | exact HB.out)) hb); have n1_ := Az.mk (hbox); have n2_ := Az.mk ((by rw [hg]; exact (bwZ (by repeat (first | (with_reducible first | exact HB.out | apply bwA | apply pbN | apply bwD) | exact HB.out))) : w.heap.size ≤ gb705)); have n3_ := Az.mk ((by rw [hg]; exact (bwZ (by repeat (first | (with_reducible first | exact HB.out | apply bwA | apply pbN | apply bwD) | exact HB.out))) : w.heap.size ≤ gb705)); clear HB; have HB := n0_; have BK705 := n1_; have GW705 := n2_; have GE705 := n3_; clear n0_ n1_ n2_ n3_; clear hb hbox hg) | ((with_reducible refine gtD (N := 4) rfl ?_); refine bxE ?hg (N := 4) ?hd (cs := #[.int .i64 0, .int .i64 0]) (t := 25) ?hr ?_; (case hd => rfl); (case hg => rfl); (case hr => first | (go_simp; done) | (go_simp; rfl)); intro gb706 hg w5 hbox hb; have n0_ := Az.mk (bkB (g := gb705) (o := .cells #[.int .i64 a0_0, .int .i64 a0_1] 25 (0, 0)) (by (with_reducible repeat (first | refine bkN ?_ _ | refine bkD ?_ | refine bkA ?_ _)); exact BK705.out) hb); have n1_ := Az.mk (bwT (by repeat (first | (with_reducible first | exact HB.out | apply bwA | apply pbN | apply bwD | refine bwS ?_ GE705.out) | exact HB.out)) hb); have n2_ := Az.mk (hbox); have n3_ := Az.mk ((by rw [hg]; exact (bwZ (by repeat (first | (with_reducible first | exact HB.out | apply bwA | apply pbN | apply bwD | refine bwS ?_ GE705.out) | exact HB.out))) : w.heap.size ≤ gb706)); have n4_ := Az.mk ((by rw [hg]; exact (bwZ (by repeat (first | (with_reducible first | exact HB.out | apply bwA | apply pbN | apply bwD | refine bwS ?_ GE705.out) | exact HB.out))) : w.heap.size ≤ gb706)); have n5_ := Az.mk ((by rw [hg]; exact Nat.ne_of_lt (blk_lt (g := gb705) (o := .cells #[.int .i64 a0_0, .int .i64 a0_1] 25 (0, 0)) (by (with_reducible repeat (first | refine bkN ?_ _ | refine bkD ?_ | refine bkA ?_ _)); exact BK705.out)) : gb705 ≠ gb706)); have n6_ := Az.mk ((by rw [hg]; exact Nat.ne_of_gt (blk_lt (g := gb705) (o := .cells #[.int .i64 a0_0, .int .i64 a0_1] 25 (0, 0)) (by (with_reducible repeat (first | refine bkN ?_ _ | refine bkD ?_ | refine bkA ?_ _)); exact BK705.out)) : gb706 ≠ gb705)); clear BK705; clear HB; have BK705 := n0_; have HB := n1_; have BK706 := n2_; have GW706 := n3_; have GE706 := n4_; have NB705_706 := n5_; have NB706_705 := n6_; clear n0_ n1_ n2_ n3_ n4_ n5_ n6_; clear hb hbox hg))
 (try simp only [Act.put, List.setIfInBounds_toArray, List.set_cons_zero, List.set_cons_succ])
 go_cut [32] (fun v32 wc => ∃ (kq : Nat) (x32_2 : Bool), v32 = .bool x32_2 ∧ Az (impl_FlipSlope.j0 kq a1 x32_2 a0_0 a0_1 = some (r1, r2, r3)) ∧ Az (kq ≤ k) ∧ Az (wc.heap[gb705]? = some (.cells #[.int .i64 a0_0, .int .i64 a0_1] 25 (0, 0))) ∧ Az (wc.heap[gb706]? = some (.cells #[.int .i64 0, .int .i64 0] 25 (0, 0))) ∧ Az (Below w.heap.size w wc))
 case first =>
  have H := HC3.out
  clear HC3
  replace H := Option.bind_eq_some_iff.mp H
  obtain ⟨t707, A60, H⟩ := H
  replace H : (if t707 = true then (if a0_0 < 1 then (impl_FlipSlope.j0 k a1 true a0_0 a0_1) else (if a0_1 < 1 then (impl_FlipSlope.j0 k a1 true a0_0 a0_1) else ((impl_within.f a1 1 3).bind fun t708 => (impl_FlipSlope.j0 k a1 (!t708) a0_0 a0_1)))) else (impl_FlipSlope.j0 k a1 true a0_0 a0_1)) = some (r1, r2, r3) := H
  have A6 := Az.mk A60
  clear A60
  by_cases c7 : t707 = true
  ·subst c7
   have H1 : (if a0_0 < 1 then (impl_FlipSlope.j0 k a1 true a0_0 a0_1) else (if a0_1 < 1 then (impl_FlipSlope.j0 k a1 true a0_0 a0_1) else ((impl_within.f a1 1 3).bind fun t708 => (impl_FlipSlope.j0 k a1 (!t708) a0_0 a0_1)))) = some (r1, r2, r3) := by rw [if_pos rfl] at H; exact H
   clear H
   have H := H1
   clear H1
   by_cases c8 : a0_0 < 1
   ·rw [if_pos c8] at H
    have c8b0 : decide (a0_0 < 1) = true := decide_eq_true c8
    clear c8
    (first | rw [c8b0] | (simp only [i64_w, i32_w]; rw [c8b0]) | skip)
    have H' := Az.mk H
    clear H
    have hnb9 := NB705_706.out
    have hnc9 := NB706_705.out
    have hcz10_0 : w5.cell? ⟨gb705, 0, none⟩ = some (.int .i64 a0_0) := (bkC BK705.out 0).trans rfl
    have hcz10_1 : w5.cell? ⟨gb705, 1, none⟩ = some (.int .i64 a0_1) := (bkC BK705.out 1).trans rfl
    have hfz10_0 := bkF BK705.out 0
    have hfz10_1 := bkF BK705.out 1
    go_wp2_with (first | ((with_reducible refine gtC (f := 45) rfl ?_); refine goesL_ (some 16) rfl rfl Try.func45 (by kernel_rfl) rfl #[.agg #[.int .i64 a0_0, .int .i64 a0_1]] rfl (by (try simp only [List.map_toArray, List.map_cons, List.map_nil]); first | done | rfl | (simp only [List.length_drop, List.length_take]; rfl)) ?_; (with_reducible refine (impl_IsSlope.calls k a0_0 a0_1 true _ A6.out).mono ?_); rintro e w11 ⟨rfl, hb⟩; refine ⟨_, rfl, ?_⟩; have n0_ := Az.mk (bkB (g := gb705) (o := .cells #[.int .i64 a0_0, .int .i64 a0_1] 25 (0, 0)) (by (with_reducible repeat (first | refine bkN ?_ _ | refine bkD ?_ | refine bkA ?_ _)); exact BK705.out) hb); have n1_ := Az.mk (bkB (g := gb706) (o := .cells #[.int .i64 0, .int .i64 0] 25 (0, 0)) (by (with_reducible repeat (first | refine bkN ?_ _ | refine bkD ?_ | refine bkA ?_ _)); exact BK706.out) hb); have n2_ := Az.mk (bwT (by repeat (first | (with_reducible first | exact HB.out | apply bwA | apply pbN | apply bwD | refine bwS ?_ GE705.out | refine bwS ?_ GE706.out) | exact HB.out)) hb); clear BK705; clear BK706; clear HB; have BK705 := n0_; have BK706 := n1_; have HB := n2_; clear n0_ n1_ n2_; (try clear hb); (try clear hb2); (try clear hk); (try clear hi); have hcz12_0 : w11.cell? ⟨gb705, 0, none⟩ = some (.int .i64 a0_0) := (bkC BK705.out 0).trans rfl; have hcz12_1 : w11.cell? ⟨gb705, 1, none⟩ = some (.int .i64 a0_1) := (bkC BK705.out 1).trans rfl; have hfz12_0 := bkF BK705.out 0; have hfz12_1 := bkF BK705.out 1))
    go_meet
    case rel => exact ⟨_, (true), (by first | rfl | (simp; done) | (simp [*]; done)), H', ⟨by first | omega | exact Nat.le_refl _⟩, ⟨by (with_reducible repeat (first | refine bkN ?_ _ | refine bkD ?_ | refine bkA ?_ _)); exact BK705.out⟩, ⟨by (with_reducible repeat (first | refine bkN ?_ _ | refine bkD ?_ | refine bkA ?_ _)); exact BK706.out⟩, ⟨by repeat (first | (with_reducible first | exact HB.out | apply bwA | apply pbN | apply bwD | refine bwS ?_ GE705.out | refine bwS ?_ GE706.out) | exact HB.out)⟩⟩
   ·rw [if_neg c8] at H
    have c8b0 : decide (a0_0 < 1) = false := decide_eq_false c8
    clear c8
    (first | rw [c8b0] | (simp only [i64_w, i32_w]; rw [c8b0]) | skip)
    by_cases c13 : a0_1 < 1
    ·rw [if_pos c13] at H
     have c13b0 : decide (a0_1 < 1) = true := decide_eq_true c13
     clear c13
     have H' := Az.mk H
     clear H
     have hnb14 := NB705_706.out
     have hnc14 := NB706_705.out
     have hcz15_0 : w5.cell? ⟨gb705, 0, none⟩ = some (.int .i64 a0_0) := (bkC BK705.out 0).trans rfl
     have hcz15_1 : w5.cell? ⟨gb705, 1, none⟩ = some (.int .i64 a0_1) := (bkC BK705.out 1).trans rfl
     have hfz15_0 := bkF BK705.out 0
     have hfz15_1 := bkF BK705.out 1
     go_wp2_with (first | ((with_reducible refine gtC (f := 45) rfl ?_); refine goesL_ (some 16) rfl rfl Try.func45 (by kernel_rfl) rfl #[.agg #[.int .i64 a0_0, .int .i64 a0_1]] rfl (by (try simp only [List.map_toArray, List.map_cons, List.map_nil]); first | done | rfl | (simp only [List.length_drop, List.length_take]; rfl)) ?_; (with_reducible refine (impl_IsSlope.calls k a0_0 a0_1 true _ A6.out).mono ?_); rintro e w16 ⟨rfl, hb⟩; refine ⟨_, rfl, ?_⟩; have n0_ := Az.mk (bkB (g := gb705) (o := .cells #[.int .i64 a0_0, .int .i64 a0_1] 25 (0, 0)) (by (with_reducible repeat (first | refine bkN ?_ _ | refine bkD ?_ | refine bkA ?_ _)); exact BK705.out) hb); have n1_ := Az.mk (bkB (g := gb706) (o := .cells #[.int .i64 0, .int .i64 0] 25 (0, 0)) (by (with_reducible repeat (first | refine bkN ?_ _ | refine bkD ?_ | refine bkA ?_ _)); exact BK706.out) hb); have n2_ := Az.mk (bwT (by repeat (first | (with_reducible first | exact HB.out | apply bwA | apply pbN | apply bwD | refine bwS ?_ GE705.out | refine bwS ?_ GE706.out) | exact HB.out)) hb); clear BK705; clear BK706; clear HB; have BK705 := n0_; have BK706 := n1_; have HB := n2_; clear n0_ n1_ n2_; (try clear hb); (try clear hb2); (try clear hk); (try clear hi); have hcz17_0 : w16.cell? ⟨gb705, 0, none⟩ = some (.int .i64 a0_0) := (bkC BK705.out 0).trans rfl; have hcz17_1 : w16.cell? ⟨gb705, 1, none⟩ = some (.int .i64 a0_1) := (bkC BK705.out 1).trans rfl; have hfz17_0 := bkF BK705.out 0; have hfz17_1 := bkF BK705.out 1))
     go_meet
     case rel => exact ⟨_, (true), (by first | rfl | (simp; done) | (simp [*]; done)), H', ⟨by first | omega | exact Nat.le_refl _⟩, ⟨by (with_reducible repeat (first | refine bkN ?_ _ | refine bkD ?_ | refine bkA ?_ _)); exact BK705.out⟩, ⟨by (with_reducible repeat (first | refine bkN ?_ _ | refine bkD ?_ | refine bkA ?_ _)); exact BK706.out⟩, ⟨by repeat (first | (with_reducible first | exact HB.out | apply bwA | apply pbN | apply bwD | refine bwS ?_ GE705.out | refine bwS ?_ GE706.out) | exact HB.out)⟩⟩
    ·rw [if_neg c13] at H
     have c13b0 : decide (a0_1 < 1) = false := decide_eq_false c13
     clear c13
     replace H := Option.bind_eq_some_iff.mp H
     obtain ⟨t708, A180, H⟩ := H
     replace H : (impl_FlipSlope.j0 k a1 (!t708) a0_0 a0_1) = some (r1, r2, r3) := H
     have A18 := Az.mk A180
     clear A180
     have H' := Az.mk H
     clear H
     have hnb19 := NB705_706.out
     have hnc19 := NB706_705.out
     have hcz20_0 : w5.cell? ⟨gb705, 0, none⟩ = some (.int .i64 a0_0) := (bkC BK705.out 0).trans rfl
     have hcz20_1 : w5.cell? ⟨gb705, 1, none⟩ = some (.int .i64 a0_1) := (bkC BK705.out 1).trans rfl
     have hfz20_0 := bkF BK705.out 0
     have hfz20_1 := bkF BK705.out 1
     go_wp2_with (first | ((with_reducible refine gtC (f := 45) rfl ?_); refine goesL_ (some 16) rfl rfl Try.func45 (by kernel_rfl) rfl #[.agg #[.int .i64 a0_0, .int .i64 a0_1]] rfl (by (try simp only [List.map_toArray, List.map_cons, List.map_nil]); first | done | rfl | (simp only [List.length_drop, List.length_take]; rfl)) ?_; (with_reducible refine (impl_IsSlope.calls k a0_0 a0_1 true _ A6.out).mono ?_); rintro e w21 ⟨rfl, hb⟩; refine ⟨_, rfl, ?_⟩; have n0_ := Az.mk (bkB (g := gb705) (o := .cells #[.int .i64 a0_0, .int .i64 a0_1] 25 (0, 0)) (by (with_reducible repeat (first | refine bkN ?_ _ | refine bkD ?_ | refine bkA ?_ _)); exact BK705.out) hb); have n1_ := Az.mk (bkB (g := gb706) (o := .cells #[.int .i64 0, .int .i64 0] 25 (0, 0)) (by (with_reducible repeat (first | refine bkN ?_ _ | refine bkD ?_ | refine bkA ?_ _)); exact BK706.out) hb); have n2_ := Az.mk (bwT (by repeat (first | (with_reducible first | exact HB.out | apply bwA | apply pbN | apply bwD | refine bwS ?_ GE705.out | refine bwS ?_ GE706.out) | exact HB.out)) hb); clear BK705; clear BK706; clear HB; have BK705 := n0_; have BK706 := n1_; have HB := n2_; clear n0_ n1_ n2_; (try clear hb); (try clear hb2); (try clear hk); (try clear hi); have hcz22_0 : w21.cell? ⟨gb705, 0, none⟩ = some (.int .i64 a0_0) := (bkC BK705.out 0).trans rfl; have hcz22_1 : w21.cell? ⟨gb705, 1, none⟩ = some (.int .i64 a0_1) := (bkC BK705.out 1).trans rfl; have hfz22_0 := bkF BK705.out 0; have hfz22_1 := bkF BK705.out 1) | (go_at_call 49; (with_reducible refine (impl_within.calls a1 1 3 t708 _ A18.out).mono ?_); rintro e w' ⟨rfl, ⟨nd, rfl⟩⟩))
     go_meet
     case rel => exact ⟨_, (!t708), (by first | rfl | (simp; done) | (simp [*]; done)), H', ⟨by first | omega | exact Nat.le_refl _⟩, ⟨by (with_reducible repeat (first | refine bkN ?_ _ | refine bkD ?_ | refine bkA ?_ _)); exact BK705.out⟩, ⟨by (with_reducible repeat (first | refine bkN ?_ _ | refine bkD ?_ | refine bkA ?_ _)); exact BK706.out⟩, ⟨by repeat (first | (with_reducible first | exact HB.out | apply bwA | apply pbN | apply bwD | refine bwS ?_ GE705.out | refine bwS ?_ GE706.out) | exact HB.out)⟩⟩
  ·replace c7 := Bool.eq_false_iff.mpr c7
   subst c7
   have H1 : (impl_FlipSlope.j0 k a1 true a0_0 a0_1) = some (r1, r2, r3) := by rw [if_neg (show ¬ (false = true) by decide)] at H; exact H
   clear H
   have H := H1
   clear H1
   have H' := Az.mk H
   clear H
   have hnb23 := NB705_706.out
   have hnc23 := NB706_705.out
   have hcz24_0 : w5.cell? ⟨gb705, 0, none⟩ = some (.int .i64 a0_0) := (bkC BK705.out 0).trans rfl
   have hcz24_1 : w5.cell? ⟨gb705, 1, none⟩ = some (.int .i64 a0_1) := (bkC BK705.out 1).trans rfl
   have hfz24_0 := bkF BK705.out 0
   have hfz24_1 := bkF BK705.out 1
   go_wp2_with (first | ((with_reducible refine gtC (f := 45) rfl ?_); refine goesL_ (some 16) rfl rfl Try.func45 (by kernel_rfl) rfl #[.agg #[.int .i64 a0_0, .int .i64 a0_1]] rfl (by (try simp only [List.map_toArray, List.map_cons, List.map_nil]); first | done | rfl | (simp only [List.length_drop, List.length_take]; rfl)) ?_; (with_reducible refine (impl_IsSlope.calls k a0_0 a0_1 false _ A6.out).mono ?_); rintro e w25 ⟨rfl, hb⟩; refine ⟨_, rfl, ?_⟩; have n0_ := Az.mk (bkB (g := gb705) (o := .cells #[.int .i64 a0_0, .int .i64 a0_1] 25 (0, 0)) (by (with_reducible repeat (first | refine bkN ?_ _ | refine bkD ?_ | refine bkA ?_ _)); exact BK705.out) hb); have n1_ := Az.mk (bkB (g := gb706) (o := .cells #[.int .i64 0, .int .i64 0] 25 (0, 0)) (by (with_reducible repeat (first | refine bkN ?_ _ | refine bkD ?_ | refine bkA ?_ _)); exact BK706.out) hb); have n2_ := Az.mk (bwT (by repeat (first | (with_reducible first | exact HB.out | apply bwA | apply pbN | apply bwD | refine bwS ?_ GE705.out | refine bwS ?_ GE706.out) | exact HB.out)) hb); clear BK705; clear BK706; clear HB; have BK705 := n0_; have BK706 := n1_; have HB := n2_; clear n0_ n1_ n2_; (try clear hb); (try clear hb2); (try clear hk); (try clear hi)))
   go_meet
   case rel => exact ⟨_, (true), (by first | rfl | (simp; done) | (simp [*]; done)), H', ⟨by first | omega | exact Nat.le_refl _⟩, ⟨by (with_reducible repeat (first | refine bkN ?_ _ | refine bkD ?_ | refine bkA ?_ _)); exact BK705.out⟩, ⟨by (with_reducible repeat (first | refine bkN ?_ _ | refine bkD ?_ | refine bkA ?_ _)); exact BK706.out⟩, ⟨by repeat (first | (with_reducible first | exact HB.out | apply bwA | apply pbN | apply bwD | refine bwS ?_ GE705.out | refine bwS ?_ GE706.out) | exact HB.out)⟩⟩
 case rest =>
  clear HC3
  try clear c1
  try clear c2
  try clear p2
  try clear c3
  try clear c4
  try clear c7
  try clear c8
  try clear c8b0
  try clear c9
  try clear c13
  try clear c13b0
  try clear c14
  try clear c19
  try clear c23
  try clear hcz10_0
  try clear hcz10_1
  try clear hcz12_0
  try clear hcz12_1
  try clear hcz15_0
  try clear hcz15_1
  try clear hcz17_0
  try clear hcz17_1
  try clear hcz20_0
  try clear hcz20_1
  try clear hcz22_0
  try clear hcz22_1
  try clear hcz24_0
  try clear hcz24_1
  try clear hfz10_0
  try clear hfz10_1
  try clear hfz12_0
  try clear hfz12_1
  try clear hfz15_0
  try clear hfz15_1
  try clear hfz17_0
  try clear hfz17_1
  try clear hfz20_0
  try clear hfz20_1
  try clear hfz22_0
  try clear hfz22_1
  try clear hfz24_0
  try clear hfz24_1
  obtain ⟨kq, x32_2, rfl, HA, HJ2, BK705, BK706, HB⟩ := hcut
  cases kq with
  | zero => exact absurd HA.out (by simp [impl_FlipSlope.j0])
  | succ kj2 =>
   have H := HA.out
   clear HA
   simp only [impl_FlipSlope.j0] at H
   by_cases c26 : x32_2 = true
   ·subst c26
    have H1 : (some (0, 0, false)) = some (r1, r2, r3) := by rw [if_pos rfl] at H; exact H
    clear H
    have H := H1
    clear H1
    simp only [Option.some.injEq, Prod.mk.injEq] at H
    obtain ⟨rfl, rfl, rfl⟩ := H
    have hnb27 := NB706_705.out
    have hnc27 := NB705_706.out
    have hcz28_0 : wc.cell? ⟨gb706, 0, none⟩ = some (.int .i64 0) := (bkC BK706.out 0).trans rfl
    have hcz28_1 : wc.cell? ⟨gb706, 1, none⟩ = some (.int .i64 0) := (bkC BK706.out 1).trans rfl
    have hfz28_0 := bkF BK706.out 0
    have hfz28_1 := bkF BK706.out 1
    go_wp2
    refine bodyPost_ret (results_ct rfl _ _ gb706 25 #[.int .i64 0, .int .i64 0] (0, 0) _ rfl (by (with_reducible repeat (first | refine bkN ?_ _ | refine bkD ?_ | refine bkA ?_ _)); refine bkp (cs := #[.int .i64 0, .int .i64 0]) ?_ 1 _ rfl; (with_reducible repeat (first | refine bkN ?_ _ | refine bkD ?_ | refine bkA ?_ _)); refine bkp (cs := #[.int .i64 0, .int .i64 0]) ?_ 0 _ rfl; (with_reducible repeat (first | refine bkN ?_ _ | refine bkD ?_ | refine bkA ?_ _)); exact BK706.out) Try.underlying25 rfl (by kernel_rfl)) rfl ?_
    exact ⟨by first | rfl | (simp [eWn, eWs] <;> rfl) | (simp [*, eWn, eWs] <;> rfl), by repeat (first | (with_reducible first | exact HB.out | apply bwA | apply pbN | apply bwD | refine bwS ?_ GE705.out | refine bwS ?_ GE706.out) | exact HB.out)⟩
   ·replace c26 := Bool.eq_false_iff.mpr c26
    subst c26
    have H1 : ((impl_TurnsTo.f kj2 a0_0 a0_1).bind fun t709 => ((impl_TurnsOf.f kj2 t709).bind fun bt710 => (if bt710.2.2.2.2 = true then ((impl_edgeSlopes.f).bind fun t719 => (impl_FlipSlope.l0 kj2 a1 (([] : List (S25))) t719 (t719.length : Int) 0 bt710.1 bt710.2.1 bt710.2.2.1 bt710.2.2.2.1)) else (some (0, 0, false))))) = some (r1, r2, r3) := by rw [if_neg (show ¬ (false = true) by decide)] at H; exact H
    clear H
    have H := H1
    clear H1
    replace H := Option.bind_eq_some_iff.mp H
    obtain ⟨t709, A290, H⟩ := H
    replace H : ((impl_TurnsOf.f kj2 t709).bind fun bt710 => (if bt710.2.2.2.2 = true then ((impl_edgeSlopes.f).bind fun t719 => (impl_FlipSlope.l0 kj2 a1 (([] : List (S25))) t719 (t719.length : Int) 0 bt710.1 bt710.2.1 bt710.2.2.1 bt710.2.2.2.1)) else (some (0, 0, false)))) = some (r1, r2, r3) := H
    have A29 := Az.mk A290
    clear A290
    replace H := Option.bind_eq_some_iff.mp H
    obtain ⟨⟨t710, t711, t712, t713, t714⟩, A300, H⟩ := H
    replace H : (if t714 = true then ((impl_edgeSlopes.f).bind fun t719 => (impl_FlipSlope.l0 kj2 a1 (([] : List (S25))) t719 (t719.length : Int) 0 t710 t711 t712 t713)) else (some (0, 0, false))) = some (r1, r2, r3) := H
    have A30 := Az.mk A300
    clear A300
    by_cases c31 : t714 = true
    ·subst c31
     have H1 : ((impl_edgeSlopes.f).bind fun t719 => (impl_FlipSlope.l0 kj2 a1 (([] : List (S25))) t719 (t719.length : Int) 0 t710 t711 t712 t713)) = some (r1, r2, r3) := by rw [if_pos rfl] at H; exact H
     clear H
     have H := H1
     clear H1
     obtain ⟨y716, hy716⟩ : ∃ y_ : List (S25), y_ = (([] : List (S25))) := ⟨_, rfl⟩
     replace H : ((impl_edgeSlopes.f).bind fun t719 => (impl_FlipSlope.l0 kj2 a1 y716 t719 (t719.length : Int) 0 t710 t711 t712 t713)) = some (r1, r2, r3) := by first | (rw [hy716]; with_reducible exact H) | (have H2_ := (Option.bind_some _ _).symm.trans H; rw [hy716]; with_reducible exact H2_) | (have H2_ := (Option.bind_some _ _).symm.trans H; with_reducible exact H2_) | with_reducible exact H | (rw [hy716]; exact H) | exact H
     have Ny716 := Az.mk hy716
     clear hy716
     replace H := Option.bind_eq_some_iff.mp H
     obtain ⟨t719, A320, H⟩ := H
     replace H : (impl_FlipSlope.l0 kj2 a1 y716 t719 (t719.length : Int) 0 t710 t711 t712 t713) = some (r1, r2, r3) := H
     have A32 := Az.mk A320
     clear A320
     have H' := Az.mk H
     clear H
     have hnb33 := NB705_706.out
     have hnc33 := NB706_705.out
     have hcz34_0 : wc.cell? ⟨gb705, 0, none⟩ = some (.int .i64 a0_0) := (bkC BK705.out 0).trans rfl
     have hcz34_1 : wc.cell? ⟨gb705, 1, none⟩ = some (.int .i64 a0_1) := (bkC BK705.out 1).trans rfl
     have hfz34_0 := bkF BK705.out 0
     have hfz34_1 := bkF BK705.out 1
     go_wp2_with (first | ((with_reducible refine gtC (f := 70) rfl ?_); refine goesL_ (some 36) rfl rfl Try.func70 (by kernel_rfl) rfl #[.agg #[.int .i64 a0_0, .int .i64 a0_1]] rfl (by (try simp only [List.map_toArray, List.map_cons, List.map_nil]); first | done | rfl | (simp only [List.length_drop, List.length_take]; rfl)) ?_; (with_reducible refine (impl_TurnsTo.calls kj2 a0_0 a0_1 t709 _ A29.out).mono ?_); rintro e w35 ⟨rfl, hb⟩; refine ⟨_, rfl, ?_⟩; have n0_ := Az.mk (bkB (g := gb705) (o := .cells #[.int .i64 a0_0, .int .i64 a0_1] 25 (0, 0)) (by (with_reducible repeat (first | refine bkN ?_ _ | refine bkD ?_ | refine bkA ?_ _)); exact BK705.out) hb); have n1_ := Az.mk (bkB (g := gb706) (o := .cells #[.int .i64 0, .int .i64 0] 25 (0, 0)) (by (with_reducible repeat (first | refine bkN ?_ _ | refine bkD ?_ | refine bkA ?_ _)); exact BK706.out) hb); have n2_ := Az.mk (bwT (by repeat (first | (with_reducible first | exact HB.out | apply bwA | apply pbN | apply bwD | refine bwS ?_ GE705.out | refine bwS ?_ GE706.out) | exact HB.out)) hb); clear BK705; clear BK706; clear HB; have BK705 := n0_; have BK706 := n1_; have HB := n2_; clear n0_ n1_ n2_; (try clear hb); (try clear hb2); (try clear hk); (try clear hi)) | ((with_reducible refine gtC (f := 69) rfl ?_); refine goesL_ (some 37) rfl rfl Try.func69 (by kernel_rfl) rfl #[.string t709] rfl (by (try simp only [List.map_toArray, List.map_cons, List.map_nil]); first | done | rfl | (simp only [List.length_drop, List.length_take]; rfl)) ?_; (with_reducible refine (impl_TurnsOf.calls kj2 t709 t710 t711 t712 t713 true _ A30.out).mono ?_); rintro e w36 ⟨rfl, hb⟩; refine ⟨_, rfl, ?_⟩; have n0_ := Az.mk (bkB (g := gb705) (o := .cells #[.int .i64 a0_0, .int .i64 a0_1] 25 (0, 0)) (by (with_reducible repeat (first | refine bkN ?_ _ | refine bkD ?_ | refine bkA ?_ _)); exact BK705.out) hb); have n1_ := Az.mk (bkB (g := gb706) (o := .cells #[.int .i64 0, .int .i64 0] 25 (0, 0)) (by (with_reducible repeat (first | refine bkN ?_ _ | refine bkD ?_ | refine bkA ?_ _)); exact BK706.out) hb); have n2_ := Az.mk (bwT (by repeat (first | (with_reducible first | exact HB.out | apply bwA | apply pbN | apply bwD | refine bwS ?_ GE705.out | refine bwS ?_ GE706.out) | exact HB.out)) hb); clear BK705; clear BK706; clear HB; have BK705 := n0_; have BK706 := n1_; have HB := n2_; clear n0_ n1_ n2_; (try clear hb); (try clear hb2); (try clear hk); (try clear hi)) | ((with_reducible refine gtD (N := 6) rfl ?_); refine bxE ?hg (N := 6) ?hd (cs := #[.int .i64 0, .int .i64 0, .int .i64 0, .int .i64 0]) (t := 46) ?hr ?_; (case hd => rfl); (case hg => rfl); (case hr => first | (go_simp; done) | (go_simp; rfl)); intro gb715 hg w37 hbox hb; have n0_ := Az.mk (bkB (g := gb705) (o := .cells #[.int .i64 a0_0, .int .i64 a0_1] 25 (0, 0)) (by (with_reducible repeat (first | refine bkN ?_ _ | refine bkD ?_ | refine bkA ?_ _)); exact BK705.out) hb); have n1_ := Az.mk (bkB (g := gb706) (o := .cells #[.int .i64 0, .int .i64 0] 25 (0, 0)) (by (with_reducible repeat (first | refine bkN ?_ _ | refine bkD ?_ | refine bkA ?_ _)); exact BK706.out) hb); have n2_ := Az.mk (bwT (by repeat (first | (with_reducible first | exact HB.out | apply bwA | apply pbN | apply bwD | refine bwS ?_ GE705.out | refine bwS ?_ GE706.out) | exact HB.out)) hb); have n3_ := Az.mk (hbox); have n4_ := Az.mk ((by rw [hg]; exact (bwZ (by repeat (first | (with_reducible first | exact HB.out | apply bwA | apply pbN | apply bwD | refine bwS ?_ GE705.out | refine bwS ?_ GE706.out) | exact HB.out))) : w.heap.size ≤ gb715)); have n5_ := Az.mk ((by rw [hg]; exact (bwZ (by repeat (first | (with_reducible first | exact HB.out | apply bwA | apply pbN | apply bwD | refine bwS ?_ GE705.out | refine bwS ?_ GE706.out) | exact HB.out))) : w.heap.size ≤ gb715)); have n6_ := Az.mk ((by rw [hg]; exact Nat.ne_of_lt (blk_lt (g := gb705) (o := .cells #[.int .i64 a0_0, .int .i64 a0_1] 25 (0, 0)) (by (with_reducible repeat (first | refine bkN ?_ _ | refine bkD ?_ | refine bkA ?_ _)); exact BK705.out)) : gb705 ≠ gb715)); have n7_ := Az.mk ((by rw [hg]; exact Nat.ne_of_gt (blk_lt (g := gb705) (o := .cells #[.int .i64 a0_0, .int .i64 a0_1] 25 (0, 0)) (by (with_reducible repeat (first | refine bkN ?_ _ | refine bkD ?_ | refine bkA ?_ _)); exact BK705.out)) : gb715 ≠ gb705)); have n8_ := Az.mk ((by rw [hg]; exact Nat.ne_of_lt (blk_lt (g := gb706) (o := .cells #[.int .i64 0, .int .i64 0] 25 (0, 0)) (by (with_reducible repeat (first | refine bkN ?_ _ | refine bkD ?_ | refine bkA ?_ _)); exact BK706.out)) : gb706 ≠ gb715)); have n9_ := Az.mk ((by rw [hg]; exact Nat.ne_of_gt (blk_lt (g := gb706) (o := .cells #[.int .i64 0, .int .i64 0] 25 (0, 0)) (by (with_reducible repeat (first | refine bkN ?_ _ | refine bkD ?_ | refine bkA ?_ _)); exact BK706.out)) : gb715 ≠ gb706)); clear BK705; clear BK706; clear HB; have BK705 := n0_; have BK706 := n1_; have HB := n2_; have BK715 := n3_; have GW715 := n4_; have GE715 := n5_; have NB705_715 := n6_; have NB715_705 := n7_; have NB706_715 := n8_; have NB715_706 := n9_; clear n0_ n1_ n2_ n3_ n4_ n5_ n6_ n7_ n8_ n9_; clear hb hbox hg; have hnb38 := NB715_705.out; have hnc38 := NB705_715.out; have hnb39 := NB715_706.out; have hnc39 := NB706_715.out; have hcz40_0 : w37.cell? ⟨gb715, 0, none⟩ = some (.int .i64 0) := (bkC BK715.out 0).trans rfl; have hcz40_1 : w37.cell? ⟨gb715, 1, none⟩ = some (.int .i64 0) := (bkC BK715.out 1).trans rfl; have hcz40_2 : w37.cell? ⟨gb715, 2, none⟩ = some (.int .i64 0) := (bkC BK715.out 2).trans rfl; have hcz40_3 : w37.cell? ⟨gb715, 3, none⟩ = some (.int .i64 0) := (bkC BK715.out 3).trans rfl; have hfz40_0 := bkF BK715.out 0; have hfz40_1 := bkF BK715.out 1; have hfz40_2 := bkF BK715.out 2; have hfz40_3 := bkF BK715.out 3) | ((with_reducible refine gtD (N := 43) rfl ?_); refine Kd.R_lit k25 _ 25 ?hg (N := 43) ?hd (xs := ([] : List (S25))) (inner := []) (ok := fun _ => True) (okp := fun _ => True) ?hr ?hp (fun _ hk => hk) trivial (Below.refl _ _) (Nat.le_refl _) (by simp) ?_; (case hd => rfl); (case hg => rfl); (case hr => first | (go_simp; done) | (go_simp; rfl)); (case hp => exact (Reps.none _ _)); intro v717 w41 ho42 hb hg_ hnew_; clear hg_ hnew_; (first | rw [← Ny716.out] at ho42 | (simp only [Int.reduceToNat] at ho42; rw [← Ny716.out] at ho42)); have n0_ := Az.mk (Kd.R_lower (Kd.R_newB (Kd.R_newB ho42 (g := gb705) (o := .cells #[.int .i64 a0_0, .int .i64 a0_1] 25 (0, 0)) (by (with_reducible repeat (first | refine bkN ?_ _ | refine bkD ?_ | refine bkA ?_ _)); refine bkf ?_ NB705_715.out _; (with_reducible repeat (first | refine bkN ?_ _ | refine bkD ?_ | refine bkA ?_ _)); refine bkf ?_ NB705_715.out _; (with_reducible repeat (first | refine bkN ?_ _ | refine bkD ?_ | refine bkA ?_ _)); refine bkf ?_ NB705_715.out _; (with_reducible repeat (first | refine bkN ?_ _ | refine bkD ?_ | refine bkA ?_ _)); refine bkf ?_ NB705_715.out _; (with_reducible repeat (first | refine bkN ?_ _ | refine bkD ?_ | refine bkA ?_ _)); exact BK705.out)) (g := gb706) (o := .cells #[.int .i64 0, .int .i64 0] 25 (0, 0)) (by (with_reducible repeat (first | refine bkN ?_ _ | refine bkD ?_ | refine bkA ?_ _)); refine bkf ?_ NB706_715.out _; (with_reducible repeat (first | refine bkN ?_ _ | refine bkD ?_ | refine bkA ?_ _)); refine bkf ?_ NB706_715.out _; (with_reducible repeat (first | refine bkN ?_ _ | refine bkD ?_ | refine bkA ?_ _)); refine bkf ?_ NB706_715.out _; (with_reducible repeat (first | refine bkN ?_ _ | refine bkD ?_ | refine bkA ?_ _)); refine bkf ?_ NB706_715.out _; (with_reducible repeat (first | refine bkN ?_ _ | refine bkD ?_ | refine bkA ?_ _)); exact BK706.out)) (bwZ (by repeat (first | (with_reducible first | exact HB.out | apply bwA | apply pbN | apply bwD | refine bwS ?_ GE705.out | refine bwS ?_ GE706.out | refine bwS ?_ GE715.out) | exact HB.out)))); have n1_ := Az.mk (bkB (g := gb705) (o := .cells #[.int .i64 a0_0, .int .i64 a0_1] 25 (0, 0)) (by (with_reducible repeat (first | refine bkN ?_ _ | refine bkD ?_ | refine bkA ?_ _)); refine bkf ?_ NB705_715.out _; (with_reducible repeat (first | refine bkN ?_ _ | refine bkD ?_ | refine bkA ?_ _)); refine bkf ?_ NB705_715.out _; (with_reducible repeat (first | refine bkN ?_ _ | refine bkD ?_ | refine bkA ?_ _)); refine bkf ?_ NB705_715.out _; (with_reducible repeat (first | refine bkN ?_ _ | refine bkD ?_ | refine bkA ?_ _)); refine bkf ?_ NB705_715.out _; (with_reducible repeat (first | refine bkN ?_ _ | refine bkD ?_ | refine bkA ?_ _)); exact BK705.out) hb); have n2_ := Az.mk (bkB (g := gb706) (o := .cells #[.int .i64 0, .int .i64 0] 25 (0, 0)) (by (with_reducible repeat (first | refine bkN ?_ _ | refine bkD ?_ | refine bkA ?_ _)); refine bkf ?_ NB706_715.out _; (with_reducible repeat (first | refine bkN ?_ _ | refine bkD ?_ | refine bkA ?_ _)); refine bkf ?_ NB706_715.out _; (with_reducible repeat (first | refine bkN ?_ _ | refine bkD ?_ | refine bkA ?_ _)); refine bkf ?_ NB706_715.out _; (with_reducible repeat (first | refine bkN ?_ _ | refine bkD ?_ | refine bkA ?_ _)); refine bkf ?_ NB706_715.out _; (with_reducible repeat (first | refine bkN ?_ _ | refine bkD ?_ | refine bkA ?_ _)); exact BK706.out) hb); have n3_ := Az.mk (bkB (g := gb715) (o := .cells #[.int .i64 t710, .int .i64 t711, .int .i64 t712, .int .i64 t713] 46 (0, 0)) (by (with_reducible repeat (first | refine bkN ?_ _ | refine bkD ?_ | refine bkA ?_ _)); refine bkp (cs := #[.int .i64 t710, .int .i64 t711, .int .i64 t712, .int .i64 0]) ?_ 3 _ rfl; (with_reducible repeat (first | refine bkN ?_ _ | refine bkD ?_ | refine bkA ?_ _)); refine bkp (cs := #[.int .i64 t710, .int .i64 t711, .int .i64 0, .int .i64 0]) ?_ 2 _ rfl; (with_reducible repeat (first | refine bkN ?_ _ | refine bkD ?_ | refine bkA ?_ _)); refine bkp (cs := #[.int .i64 t710, .int .i64 0, .int .i64 0, .int .i64 0]) ?_ 1 _ rfl; (with_reducible repeat (first | refine bkN ?_ _ | refine bkD ?_ | refine bkA ?_ _)); refine bkp (cs := #[.int .i64 0, .int .i64 0, .int .i64 0, .int .i64 0]) ?_ 0 _ rfl; (with_reducible repeat (first | refine bkN ?_ _ | refine bkD ?_ | refine bkA ?_ _)); exact BK715.out) hb); have n4_ := Az.mk (bwT (by repeat (first | (with_reducible first | exact HB.out | apply bwA | apply pbN | apply bwD | refine bwS ?_ GE705.out | refine bwS ?_ GE706.out | refine bwS ?_ GE715.out) | exact HB.out)) hb); clear BK705; clear BK706; clear BK715; clear HB; have HO718 := n0_; have BK705 := n1_; have BK706 := n2_; have BK715 := n3_; have HB := n4_; clear n0_ n1_ n2_ n3_ n4_; clear hb ho42) | ((with_reducible refine gtC (f := 71) rfl ?_); refine goesL_ (some 44) rfl rfl Try.func71 (by kernel_rfl) rfl #[] rfl (by (try simp only [List.map_toArray, List.map_cons, List.map_nil]); first | done | rfl | (simp only [List.length_drop, List.length_take]; rfl)) ?_; (with_reducible refine (impl_edgeSlopes.calls  t719 _ A32.out).mono ?_); rintro e w43 ⟨v720, rfl, ho0, hb⟩; refine ⟨_, rfl, ?_⟩; have n0_ := Az.mk (Kd.R_elder' (by (with_reducible repeat (first | apply Kd.R_alloc | apply Kd.R_drewN | apply Kd.R_drew)); exact HO718.out) (Kd.R_base ho0) hb); have n1_ := Az.mk (Kd.R_lower (Kd.R_newB (Kd.R_newB (Kd.R_new' ho0 (Kd.R_lt (by (with_reducible repeat (first | apply Kd.R_alloc | apply Kd.R_drewN | apply Kd.R_drew)); exact HO718.out))) (g := gb705) (o := .cells #[.int .i64 a0_0, .int .i64 a0_1] 25 (0, 0)) (by (with_reducible repeat (first | refine bkN ?_ _ | refine bkD ?_ | refine bkA ?_ _)); exact BK705.out)) (g := gb706) (o := .cells #[.int .i64 0, .int .i64 0] 25 (0, 0)) (by (with_reducible repeat (first | refine bkN ?_ _ | refine bkD ?_ | refine bkA ?_ _)); exact BK706.out)) (bwZ (by repeat (first | (with_reducible first | exact HB.out | apply bwA | apply pbN | apply bwD | refine bwS ?_ GE705.out | refine bwS ?_ GE706.out | refine bwS ?_ GE715.out) | exact HB.out)))); have n2_ := Az.mk (bkB (g := gb705) (o := .cells #[.int .i64 a0_0, .int .i64 a0_1] 25 (0, 0)) (by (with_reducible repeat (first | refine bkN ?_ _ | refine bkD ?_ | refine bkA ?_ _)); exact BK705.out) hb); have n3_ := Az.mk (bkB (g := gb706) (o := .cells #[.int .i64 0, .int .i64 0] 25 (0, 0)) (by (with_reducible repeat (first | refine bkN ?_ _ | refine bkD ?_ | refine bkA ?_ _)); exact BK706.out) hb); have n4_ := Az.mk (bkB (g := gb715) (o := .cells #[.int .i64 t710, .int .i64 t711, .int .i64 t712, .int .i64 t713] 46 (0, 0)) (by (with_reducible repeat (first | refine bkN ?_ _ | refine bkD ?_ | refine bkA ?_ _)); exact BK715.out) hb); have n5_ := Az.mk (bwT (by repeat (first | (with_reducible first | exact HB.out | apply bwA | apply pbN | apply bwD | refine bwS ?_ GE705.out | refine bwS ?_ GE706.out | refine bwS ?_ GE715.out) | exact HB.out)) hb); clear HO718; clear BK705; clear BK706; clear BK715; clear HB; have HO718 := n0_; have HO721 := n1_; have BK705 := n2_; have BK706 := n3_; have BK715 := n4_; have HB := n5_; clear n0_ n1_ n2_ n3_ n4_ n5_; (try clear hb); (try clear hb2); (try clear hk); (try clear hi); (try clear ho0); obtain ⟨Ao44, co44, eo44⟩ := Kd.R_slice HO721.out; subst eo44))
     go_loopg [8, 46] kj2 (fun kq v8 v46 w' => ∃ (x8_2 : List (S25)) (x46_2 : Int) (x707000_2 : Int) (x707001_2 : Int), v46 = .int .i64 x46_2 ∧ Az (impl_FlipSlope.l0 kq a1 x8_2 t719 (t719.length : Int) x46_2 t710 t711 t712 t713 = some (r1, r2, r3)) ∧ Az (kq ≤ kj2) ∧ Az (Kd.R k25 25 w' w.heap.size (fun k_ => some k_ ≠ ((.slice Ao44 t719.length co44) : Value).ownBlock ∧ k_ ≠ gb705 ∧ k_ ≠ gb706) v8 x8_2) ∧ Az (Kd.R k25 25 w' w.heap.size (fun k_ => some k_ ≠ (v8 : Value).ownBlock ∧ k_ ≠ gb705 ∧ k_ ≠ gb706) (.slice Ao44 t719.length co44) t719) ∧ Az (w'.heap[gb705]? = some (.cells #[.int .i64 a0_0, .int .i64 a0_1] 25 (0, 0))) ∧ Az (w'.heap[gb706]? = some (.cells #[.int .i64 x707000_2, .int .i64 x707001_2] 25 (0, 0))) ∧ Az (w'.heap[gb715]? = some (.cells #[.int .i64 t710, .int .i64 t711, .int .i64 t712, .int .i64 t713] 46 (0, 0))) ∧ Az (Below w.heap.size w w'))
     case atStart => exact ⟨(y716), (0), (0), (0), (by first | rfl | (simp; done) | (simp [*]; done)), H', ⟨Nat.le_refl _⟩, ⟨by (with_reducible repeat (first | apply Kd.R_alloc | apply Kd.R_drewN | apply Kd.R_drew)); exact Kd.R_mono HO718.out (fun _ hk => ⟨hk.2, ⟨hk.1.1.2, hk.1.2⟩⟩)⟩, ⟨by (with_reducible repeat (first | apply Kd.R_alloc | apply Kd.R_drewN | apply Kd.R_drew)); exact Kd.R_mono HO721.out (fun _ hk => ⟨hk.1.1.2, ⟨hk.1.2, hk.2⟩⟩)⟩, ⟨by (with_reducible repeat (first | refine bkN ?_ _ | refine bkD ?_ | refine bkA ?_ _)); exact BK705.out⟩, ⟨by (with_reducible repeat (first | refine bkN ?_ _ | refine bkD ?_ | refine bkA ?_ _)); exact BK706.out⟩, ⟨by (with_reducible repeat (first | refine bkN ?_ _ | refine bkD ?_ | refine bkA ?_ _)); exact BK715.out⟩, ⟨by repeat (first | (with_reducible first | exact HB.out | apply bwA | apply pbN | apply bwD | refine bwS ?_ GE705.out | refine bwS ?_ GE706.out | refine bwS ?_ GE715.out) | exact HB.out)⟩⟩
     case round =>
      clear H'
      try clear c1
      try clear c2
      try clear p2
      try clear c3
      try clear c4
      try clear c6
      try clear c7
      try clear c8
      try clear c8b0
      try clear c9
      try clear c13
      try clear c13b0
      try clear c14
      try clear c19
      try clear c23
      try clear c26
      try clear c27
      try clear c31
      try clear c33
      try clear c36
      try clear c38
      try clear c39
      try clear hcz10_0
      try clear hcz10_1
      try clear hcz12_0
      try clear hcz12_1
      try clear hcz15_0
      try clear hcz15_1
      try clear hcz17_0
      try clear hcz17_1
      try clear hcz20_0
      try clear hcz20_1
      try clear hcz22_0
      try clear hcz22_1
      try clear hcz24_0
      try clear hcz24_1
      try clear hcz28_0
      try clear hcz28_1
      try clear hcz34_0
      try clear hcz34_1
      try clear hcz40_0
      try clear hcz40_1
      try clear hcz40_2
      try clear hcz40_3
      try clear hfz10_0
      try clear hfz10_1
      try clear hfz12_0
      try clear hfz12_1
      try clear hfz15_0
      try clear hfz15_1
      try clear hfz17_0
      try clear hfz17_1
      try clear hfz20_0
      try clear hfz20_1
      try clear hfz22_0
      try clear hfz22_1
      try clear hfz24_0
      try clear hfz24_1
      try clear hfz28_0
      try clear hfz28_1
      try clear hfz34_0
      try clear hfz34_1
      try clear hfz40_0
      try clear hfz40_1
      try clear hfz40_2
      try clear hfz40_3
      try clear p2
      obtain ⟨x8_2, x46_2, x707000_2, x707001_2, rfl, HA, HK2, HO_8, HO_44, BK705, BK706, BK715, HB⟩ := hrel
      cases gk with
      | zero => exact absurd HA.out (by simp [impl_FlipSlope.l0])
      | succ k2 =>
       have H := HA.out
       clear HA
       simp only [impl_FlipSlope.l0] at H
       by_cases c45 : x46_2 < (t719.length : Int)
       ·rw [if_pos c45] at H
        have c45b0 : decide (x46_2 < (t719.length : Int)) = true := decide_eq_true c45
        clear c45
        by_cases c46 : 0 ≤ x46_2
        ·rw [if_pos c46] at H
         have c46b0 : decide (0 ≤ x46_2) = true := decide_eq_true c46
         clear c46
         by_cases c47 : x46_2 < (t719.length : Int)
         ·rw [if_pos c47] at H
          have c47b0 : decide (x46_2 < (t719.length : Int)) = true := decide_eq_true c47
          clear c47
          replace H := Option.bind_eq_some_iff.mp H
          obtain ⟨⟨t724, t725, t726⟩, A480, H⟩ := H
          replace H : (if t726 = true then (if x8_2.length < 8796093022208 then (impl_FlipSlope.l0 k2 a1 (x8_2 ++ [(⟨t724, t725⟩ : S25)]) t719 (t719.length : Int) (wrap64 (x46_2 + 1)) t710 t711 t712 t713) else (none)) else (some (0, 0, false))) = some (r1, r2, r3) := H
          have A48 := Az.mk A480
          clear A480
          by_cases c49 : t726 = true
          ·subst c49
           have H1 : (if x8_2.length < 8796093022208 then (impl_FlipSlope.l0 k2 a1 (x8_2 ++ [(⟨t724, t725⟩ : S25)]) t719 (t719.length : Int) (wrap64 (x46_2 + 1)) t710 t711 t712 t713) else (none)) = some (r1, r2, r3) := by rw [if_pos rfl] at H; exact H
           clear H
           have H := H1
           clear H1
           by_cases c50 : x8_2.length < 8796093022208
           ·rw [if_pos c50] at H
            have LMc50 := Az.mk c50
            clear c50
            obtain ⟨y728, hy728⟩ : ∃ y_ : List (S25), y_ = (x8_2 ++ [(⟨t724, t725⟩ : S25)]) := ⟨_, rfl⟩
            replace H : (impl_FlipSlope.l0 k2 a1 y728 t719 (t719.length : Int) (wrap64 (x46_2 + 1)) t710 t711 t712 t713) = some (r1, r2, r3) := by first | (rw [hy728]; with_reducible exact H) | (have H2_ := (Option.bind_some _ _).symm.trans H; rw [hy728]; with_reducible exact H2_) | (have H2_ := (Option.bind_some _ _).symm.trans H; with_reducible exact H2_) | with_reducible exact H | (rw [hy728]; exact H) | exact H
            have Ny728 := Az.mk hy728
            clear hy728
            have H' := Az.mk H
            clear H
            have p722 : 0 ≤ (x46_2 : Int) := of_decide_eq_true (by first | (with_reducible assumption) | assumption)
            have q722 : x46_2 < (t719.length : Int) := of_decide_eq_true (by first | (with_reducible assumption) | assumption)
            obtain ⟨ad722, e722, hx722_0, hx722_1⟩ := at_T25 (Kd.R_reads' HO_44.out).2.2 x46_2 p722 q722
            cases e722
            replace p722 := eq_true p722
            replace q722 := eq_true q722
            go_wp2_with (first | ((with_reducible refine gtD (N := 10) rfl ?_); refine bxE ?hg (N := 10) ?hd (cs := #[.int .i64 0, .int .i64 0]) (t := 25) ?hr ?_; (case hd => rfl); (case hg => rfl); (case hr => first | (go_simp; done) | (go_simp; rfl)); intro gb723 hg w51 hbox hb; have n0_ := Az.mk (Kd.R_below (Kd.R_elderB (by (with_reducible repeat (first | apply Kd.R_alloc | apply Kd.R_drewN | apply Kd.R_drew)); exact HO_8.out) gb723 (Nat.le_of_eq hg.symm)) hb); have n1_ := Az.mk (Kd.R_below (Kd.R_elderB (by (with_reducible repeat (first | apply Kd.R_alloc | apply Kd.R_drewN | apply Kd.R_drew)); exact HO_44.out) gb723 (Nat.le_of_eq hg.symm)) hb); have n2_ := Az.mk (bkB (g := gb705) (o := .cells #[.int .i64 a0_0, .int .i64 a0_1] 25 (0, 0)) (by (with_reducible repeat (first | refine bkN ?_ _ | refine bkD ?_ | refine bkA ?_ _)); exact BK705.out) hb); have n3_ := Az.mk (bkB (g := gb706) (o := .cells #[.int .i64 x707000_2, .int .i64 x707001_2] 25 (0, 0)) (by (with_reducible repeat (first | refine bkN ?_ _ | refine bkD ?_ | refine bkA ?_ _)); exact BK706.out) hb); have n4_ := Az.mk (bkB (g := gb715) (o := .cells #[.int .i64 t710, .int .i64 t711, .int .i64 t712, .int .i64 t713] 46 (0, 0)) (by (with_reducible repeat (first | refine bkN ?_ _ | refine bkD ?_ | refine bkA ?_ _)); exact BK715.out) hb); have n5_ := Az.mk (bwT (by repeat (first | (with_reducible first | exact HB.out | apply bwA | apply pbN | apply bwD | refine bwS ?_ GE705.out | refine bwS ?_ GE706.out | refine bwS ?_ GE715.out) | exact HB.out)) hb); have n6_ := Az.mk (hbox); have n7_ := Az.mk ((by rw [hg]; exact (bwZ (by repeat (first | (with_reducible first | exact HB.out | apply bwA | apply pbN | apply bwD | refine bwS ?_ GE705.out | refine bwS ?_ GE706.out | refine bwS ?_ GE715.out) | exact HB.out))) : w.heap.size ≤ gb723)); have n8_ := Az.mk ((by rw [hg]; exact (bwZ (by repeat (first | (with_reducible first | exact HB.out | apply bwA | apply pbN | apply bwD | refine bwS ?_ GE705.out | refine bwS ?_ GE706.out | refine bwS ?_ GE715.out) | exact HB.out))) : w.heap.size ≤ gb723)); have n9_ := Az.mk ((by rw [hg]; exact Nat.ne_of_lt (blk_lt (g := gb705) (o := .cells #[.int .i64 a0_0, .int .i64 a0_1] 25 (0, 0)) (by (with_reducible repeat (first | refine bkN ?_ _ | refine bkD ?_ | refine bkA ?_ _)); exact BK705.out)) : gb705 ≠ gb723)); have n10_ := Az.mk ((by rw [hg]; exact Nat.ne_of_gt (blk_lt (g := gb705) (o := .cells #[.int .i64 a0_0, .int .i64 a0_1] 25 (0, 0)) (by (with_reducible repeat (first | refine bkN ?_ _ | refine bkD ?_ | refine bkA ?_ _)); exact BK705.out)) : gb723 ≠ gb705)); have n11_ := Az.mk ((by rw [hg]; exact Nat.ne_of_lt (blk_lt (g := gb706) (o := .cells #[.int .i64 x707000_2, .int .i64 x707001_2] 25 (0, 0)) (by (with_reducible repeat (first | refine bkN ?_ _ | refine bkD ?_ | refine bkA ?_ _)); exact BK706.out)) : gb706 ≠ gb723)); have n12_ := Az.mk ((by rw [hg]; exact Nat.ne_of_gt (blk_lt (g := gb706) (o := .cells #[.int .i64 x707000_2, .int .i64 x707001_2] 25 (0, 0)) (by (with_reducible repeat (first | refine bkN ?_ _ | refine bkD ?_ | refine bkA ?_ _)); exact BK706.out)) : gb723 ≠ gb706)); have n13_ := Az.mk ((by rw [hg]; exact Nat.ne_of_lt (blk_lt (g := gb715) (o := .cells #[.int .i64 t710, .int .i64 t711, .int .i64 t712, .int .i64 t713] 46 (0, 0)) (by (with_reducible repeat (first | refine bkN ?_ _ | refine bkD ?_ | refine bkA ?_ _)); exact BK715.out)) : gb715 ≠ gb723)); have n14_ := Az.mk ((by rw [hg]; exact Nat.ne_of_gt (blk_lt (g := gb715) (o := .cells #[.int .i64 t710, .int .i64 t711, .int .i64 t712, .int .i64 t713] 46 (0, 0)) (by (with_reducible repeat (first | refine bkN ?_ _ | refine bkD ?_ | refine bkA ?_ _)); exact BK715.out)) : gb723 ≠ gb715)); clear HO_8; clear HO_44; clear BK705; clear BK706; clear BK715; clear HB; have HO_8 := n0_; have HO_44 := n1_; have BK705 := n2_; have BK706 := n3_; have BK715 := n4_; have HB := n5_; have BK723 := n6_; have GW723 := n7_; have GE723 := n8_; have NB705_723 := n9_; have NB723_705 := n10_; have NB706_723 := n11_; have NB723_706 := n12_; have NB715_723 := n13_; have NB723_715 := n14_; clear n0_ n1_ n2_ n3_ n4_ n5_ n6_ n7_ n8_ n9_ n10_ n11_ n12_ n13_ n14_; clear hb hbox hg; have hnb52 := NB723_705.out; have hnc52 := NB705_723.out; have hnb53 := NB723_706.out; have hnc53 := NB706_723.out; have hnb54 := NB723_715.out; have hnc54 := NB715_723.out; have hcz55_0 : w51.cell? ⟨gb723, 0, none⟩ = some (.int .i64 0) := (bkC BK723.out 0).trans rfl; have hcz55_1 : w51.cell? ⟨gb723, 1, none⟩ = some (.int .i64 0) := (bkC BK723.out 1).trans rfl; have hfz55_0 := bkF BK723.out 0; have hfz55_1 := bkF BK723.out 1; have hnb56 := NB715_705.out; have hnc56 := NB705_715.out; have hnb57 := NB715_706.out; have hnc57 := NB706_715.out; have hcz58_0 : w51.cell? ⟨gb715, 0, none⟩ = some (.int .i64 t710) := (bkC BK715.out 0).trans rfl; have hcz58_1 : w51.cell? ⟨gb715, 1, none⟩ = some (.int .i64 t711) := (bkC BK715.out 1).trans rfl; have hcz58_2 : w51.cell? ⟨gb715, 2, none⟩ = some (.int .i64 t712) := (bkC BK715.out 2).trans rfl; have hcz58_3 : w51.cell? ⟨gb715, 3, none⟩ = some (.int .i64 t713) := (bkC BK715.out 3).trans rfl; have hfz58_0 := bkF BK715.out 0; have hfz58_1 := bkF BK715.out 1; have hfz58_2 := bkF BK715.out 2; have hfz58_3 := bkF BK715.out 3) | ((with_reducible refine gtC (f := 72) rfl ?_); refine goesL_ (some 53) rfl rfl Try.func72 (by kernel_rfl) rfl #[.agg #[.int .i64 t710, .int .i64 t711, .int .i64 t712, .int .i64 t713], .agg #[.int .i64 ((rd_T25 t719 x46_2).f0), .int .i64 ((rd_T25 t719 x46_2).f1)]] rfl (by (try simp only [List.map_toArray, List.map_cons, List.map_nil]); first | done | rfl | (simp only [List.length_drop, List.length_take]; rfl)) ?_; (with_reducible refine (impl_MoveSlope.calls k2 t710 t711 t712 t713 ((rd_T25 t719 x46_2).f0) ((rd_T25 t719 x46_2).f1) t724 t725 true _ A48.out).mono ?_); rintro e w59 ⟨rfl, hb⟩; refine ⟨_, rfl, ?_⟩; have n0_ := Az.mk (Kd.R_below (by (with_reducible repeat (first | apply Kd.R_alloc | apply Kd.R_drewN | apply Kd.R_drew)); exact (Kd.R_mono (Kd.R_far (p := ⟨gb723, 1, none⟩) (Kd.R_far (p := ⟨gb723, 0, none⟩) (Kd.R_mono HO_8.out (fun k_ hk => (⟨hk, hk.2⟩ : _ ∧ k_ ≠ gb723))) (fun _ hk => hk.2) (.int .i64 ((rd_T25 t719 x46_2).f0))) (fun _ hk => hk.2) (.int .i64 ((rd_T25 t719 x46_2).f1))) (fun _ h_ => h_.1))) hb); have n1_ := Az.mk (Kd.R_below (by (with_reducible repeat (first | apply Kd.R_alloc | apply Kd.R_drewN | apply Kd.R_drew)); exact (Kd.R_mono (Kd.R_far (p := ⟨gb723, 1, none⟩) (Kd.R_far (p := ⟨gb723, 0, none⟩) (Kd.R_mono HO_44.out (fun k_ hk => (⟨hk, hk.2⟩ : _ ∧ k_ ≠ gb723))) (fun _ hk => hk.2) (.int .i64 ((rd_T25 t719 x46_2).f0))) (fun _ hk => hk.2) (.int .i64 ((rd_T25 t719 x46_2).f1))) (fun _ h_ => h_.1))) hb); have n2_ := Az.mk (bkB (g := gb705) (o := .cells #[.int .i64 a0_0, .int .i64 a0_1] 25 (0, 0)) (by (with_reducible repeat (first | refine bkN ?_ _ | refine bkD ?_ | refine bkA ?_ _)); refine bkf ?_ NB705_723.out _; (with_reducible repeat (first | refine bkN ?_ _ | refine bkD ?_ | refine bkA ?_ _)); refine bkf ?_ NB705_723.out _; (with_reducible repeat (first | refine bkN ?_ _ | refine bkD ?_ | refine bkA ?_ _)); exact BK705.out) hb); have n3_ := Az.mk (bkB (g := gb706) (o := .cells #[.int .i64 x707000_2, .int .i64 x707001_2] 25 (0, 0)) (by (with_reducible repeat (first | refine bkN ?_ _ | refine bkD ?_ | refine bkA ?_ _)); refine bkf ?_ NB706_723.out _; (with_reducible repeat (first | refine bkN ?_ _ | refine bkD ?_ | refine bkA ?_ _)); refine bkf ?_ NB706_723.out _; (with_reducible repeat (first | refine bkN ?_ _ | refine bkD ?_ | refine bkA ?_ _)); exact BK706.out) hb); have n4_ := Az.mk (bkB (g := gb715) (o := .cells #[.int .i64 t710, .int .i64 t711, .int .i64 t712, .int .i64 t713] 46 (0, 0)) (by (with_reducible repeat (first | refine bkN ?_ _ | refine bkD ?_ | refine bkA ?_ _)); refine bkf ?_ NB715_723.out _; (with_reducible repeat (first | refine bkN ?_ _ | refine bkD ?_ | refine bkA ?_ _)); refine bkf ?_ NB715_723.out _; (with_reducible repeat (first | refine bkN ?_ _ | refine bkD ?_ | refine bkA ?_ _)); exact BK715.out) hb); have n5_ := Az.mk (bkB (g := gb723) (o := .cells #[.int .i64 ((rd_T25 t719 x46_2).f0), .int .i64 ((rd_T25 t719 x46_2).f1)] 25 (0, 0)) (by (with_reducible repeat (first | refine bkN ?_ _ | refine bkD ?_ | refine bkA ?_ _)); refine bkp (cs := #[.int .i64 ((rd_T25 t719 x46_2).f0), .int .i64 0]) ?_ 1 _ rfl; (with_reducible repeat (first | refine bkN ?_ _ | refine bkD ?_ | refine bkA ?_ _)); refine bkp (cs := #[.int .i64 0, .int .i64 0]) ?_ 0 _ rfl; (with_reducible repeat (first | refine bkN ?_ _ | refine bkD ?_ | refine bkA ?_ _)); exact BK723.out) hb); have n6_ := Az.mk (bwT (by repeat (first | (with_reducible first | exact HB.out | apply bwA | apply pbN | apply bwD | refine bwS ?_ GE705.out | refine bwS ?_ GE706.out | refine bwS ?_ GE715.out | refine bwS ?_ GE723.out) | exact HB.out)) hb); clear HO_8; clear HO_44; clear BK705; clear BK706; clear BK715; clear BK723; clear HB; have HO_8 := n0_; have HO_44 := n1_; have BK705 := n2_; have BK706 := n3_; have BK715 := n4_; have BK723 := n5_; have HB := n6_; clear n0_ n1_ n2_ n3_ n4_ n5_ n6_; (try clear hb); (try clear hb2); (try clear hk); (try clear hi)) | ((with_reducible refine gtD (N := 11) rfl ?_); refine bxE ?hg (N := 11) ?hd (cs := #[.int .i64 0, .int .i64 0]) (t := 25) ?hr ?_; (case hd => rfl); (case hg => rfl); (case hr => first | (go_simp; done) | (go_simp; rfl)); intro gb727 hg w60 hbox hb; have n0_ := Az.mk (Kd.R_below (Kd.R_elderB (by (with_reducible repeat (first | apply Kd.R_alloc | apply Kd.R_drewN | apply Kd.R_drew)); exact HO_8.out) gb727 (Nat.le_of_eq hg.symm)) hb); have n1_ := Az.mk (Kd.R_below (Kd.R_elderB (by (with_reducible repeat (first | apply Kd.R_alloc | apply Kd.R_drewN | apply Kd.R_drew)); exact HO_44.out) gb727 (Nat.le_of_eq hg.symm)) hb); have n2_ := Az.mk (bkB (g := gb705) (o := .cells #[.int .i64 a0_0, .int .i64 a0_1] 25 (0, 0)) (by (with_reducible repeat (first | refine bkN ?_ _ | refine bkD ?_ | refine bkA ?_ _)); exact BK705.out) hb); have n3_ := Az.mk (bkB (g := gb706) (o := .cells #[.int .i64 x707000_2, .int .i64 x707001_2] 25 (0, 0)) (by (with_reducible repeat (first | refine bkN ?_ _ | refine bkD ?_ | refine bkA ?_ _)); exact BK706.out) hb); have n4_ := Az.mk (bkB (g := gb715) (o := .cells #[.int .i64 t710, .int .i64 t711, .int .i64 t712, .int .i64 t713] 46 (0, 0)) (by (with_reducible repeat (first | refine bkN ?_ _ | refine bkD ?_ | refine bkA ?_ _)); exact BK715.out) hb); have n5_ := Az.mk (bkB (g := gb723) (o := .cells #[.int .i64 ((rd_T25 t719 x46_2).f0), .int .i64 ((rd_T25 t719 x46_2).f1)] 25 (0, 0)) (by (with_reducible repeat (first | refine bkN ?_ _ | refine bkD ?_ | refine bkA ?_ _)); exact BK723.out) hb); have n6_ := Az.mk (bwT (by repeat (first | (with_reducible first | exact HB.out | apply bwA | apply pbN | apply bwD | refine bwS ?_ GE705.out | refine bwS ?_ GE706.out | refine bwS ?_ GE715.out | refine bwS ?_ GE723.out) | exact HB.out)) hb); have n7_ := Az.mk (hbox); have n8_ := Az.mk ((by rw [hg]; exact (bwZ (by repeat (first | (with_reducible first | exact HB.out | apply bwA | apply pbN | apply bwD | refine bwS ?_ GE705.out | refine bwS ?_ GE706.out | refine bwS ?_ GE715.out | refine bwS ?_ GE723.out) | exact HB.out))) : w.heap.size ≤ gb727)); have n9_ := Az.mk ((by rw [hg]; exact (bwZ (by repeat (first | (with_reducible first | exact HB.out | apply bwA | apply pbN | apply bwD | refine bwS ?_ GE705.out | refine bwS ?_ GE706.out | refine bwS ?_ GE715.out | refine bwS ?_ GE723.out) | exact HB.out))) : w.heap.size ≤ gb727)); have n10_ := Az.mk ((by rw [hg]; exact Nat.ne_of_lt (blk_lt (g := gb705) (o := .cells #[.int .i64 a0_0, .int .i64 a0_1] 25 (0, 0)) (by (with_reducible repeat (first | refine bkN ?_ _ | refine bkD ?_ | refine bkA ?_ _)); exact BK705.out)) : gb705 ≠ gb727)); have n11_ := Az.mk ((by rw [hg]; exact Nat.ne_of_gt (blk_lt (g := gb705) (o := .cells #[.int .i64 a0_0, .int .i64 a0_1] 25 (0, 0)) (by (with_reducible repeat (first | refine bkN ?_ _ | refine bkD ?_ | refine bkA ?_ _)); exact BK705.out)) : gb727 ≠ gb705)); have n12_ := Az.mk ((by rw [hg]; exact Nat.ne_of_lt (blk_lt (g := gb706) (o := .cells #[.int .i64 x707000_2, .int .i64 x707001_2] 25 (0, 0)) (by (with_reducible repeat (first | refine bkN ?_ _ | refine bkD ?_ | refine bkA ?_ _)); exact BK706.out)) : gb706 ≠ gb727)); have n13_ := Az.mk ((by rw [hg]; exact Nat.ne_of_gt (blk_lt (g := gb706) (o := .cells #[.int .i64 x707000_2, .int .i64 x707001_2] 25 (0, 0)) (by (with_reducible repeat (first | refine bkN ?_ _ | refine bkD ?_ | refine bkA ?_ _)); exact BK706.out)) : gb727 ≠ gb706)); have n14_ := Az.mk ((by rw [hg]; exact Nat.ne_of_lt (blk_lt (g := gb715) (o := .cells #[.int .i64 t710, .int .i64 t711, .int .i64 t712, .int .i64 t713] 46 (0, 0)) (by (with_reducible repeat (first | refine bkN ?_ _ | refine bkD ?_ | refine bkA ?_ _)); exact BK715.out)) : gb715 ≠ gb727)); have n15_ := Az.mk ((by rw [hg]; exact Nat.ne_of_gt (blk_lt (g := gb715) (o := .cells #[.int .i64 t710, .int .i64 t711, .int .i64 t712, .int .i64 t713] 46 (0, 0)) (by (with_reducible repeat (first | refine bkN ?_ _ | refine bkD ?_ | refine bkA ?_ _)); exact BK715.out)) : gb727 ≠ gb715)); have n16_ := Az.mk ((by rw [hg]; exact Nat.ne_of_lt (blk_lt (g := gb723) (o := .cells #[.int .i64 ((rd_T25 t719 x46_2).f0), .int .i64 ((rd_T25 t719 x46_2).f1)] 25 (0, 0)) (by (with_reducible repeat (first | refine bkN ?_ _ | refine bkD ?_ | refine bkA ?_ _)); exact BK723.out)) : gb723 ≠ gb727)); have n17_ := Az.mk ((by rw [hg]; exact Nat.ne_of_gt (blk_lt (g := gb723) (o := .cells #[.int .i64 ((rd_T25 t719 x46_2).f0), .int .i64 ((rd_T25 t719 x46_2).f1)] 25 (0, 0)) (by (with_reducible repeat (first | refine bkN ?_ _ | refine bkD ?_ | refine bkA ?_ _)); exact BK723.out)) : gb727 ≠ gb723)); clear HO_8; clear HO_44; clear BK705; clear BK706; clear BK715; clear BK723; clear HB; have HO_8 := n0_; have HO_44 := n1_; have BK705 := n2_; have BK706 := n3_; have BK715 := n4_; have BK723 := n5_; have HB := n6_; have BK727 := n7_; have GW727 := n8_; have GE727 := n9_; have NB705_727 := n10_; have NB727_705 := n11_; have NB706_727 := n12_; have NB727_706 := n13_; have NB715_727 := n14_; have NB727_715 := n15_; have NB723_727 := n16_; have NB727_723 := n17_; clear n0_ n1_ n2_ n3_ n4_ n5_ n6_ n7_ n8_ n9_ n10_ n11_ n12_ n13_ n14_ n15_ n16_ n17_; clear hb hbox hg; have hnb61 := NB727_705.out; have hnc61 := NB705_727.out; have hnb62 := NB727_706.out; have hnc62 := NB706_727.out; have hnb63 := NB727_715.out; have hnc63 := NB715_727.out; have hnb64 := NB727_723.out; have hnc64 := NB723_727.out; have hcz65_0 : w60.cell? ⟨gb727, 0, none⟩ = some (.int .i64 0) := (bkC BK727.out 0).trans rfl; have hcz65_1 : w60.cell? ⟨gb727, 1, none⟩ = some (.int .i64 0) := (bkC BK727.out 1).trans rfl; have hfz65_0 := bkF BK727.out 0; have hfz65_1 := bkF BK727.out 1) | ((with_reducible refine gate_builtin (b := .append) (xs := #[.tmp 59, .tmp 61]) rfl ?_); at_builtin; refine Kd.R_append k25 (w0 := w) w.heap.size rfl (.tmp 59) (.tmp 61) 28 25 (.agg #[(.int .i64 0), (.int .i64 0)]) 16 rfl Try.underlying28 info25 rfl (by decide) (by omega) u8 x8_2 (⟨t724, t725⟩ : S25) [.int .i64 t724, .int .i64 t725] (fun k_ => some k_ ≠ (.slice (some ad722) t719.length co44 : Value).ownBlock ∧ k_ ≠ gb705 ∧ k_ ≠ gb706 ∧ k_ ≠ gb723 ∧ k_ ≠ gb727) (fun _ => False) rfl (by first | (go_simp; done) | (go_simp; rfl)) ?aP (fun _ hk => hk.elim) ?aF ?aO ?aB ?aS ?aL ?_; (case aP => exact k25_mkM _ _ _ (⟨t724, t725⟩ : S25)); (case aB => exact (by repeat (first | (with_reducible first | exact HB.out | apply bwA | apply pbN | apply bwD | refine bwS ?_ GE705.out | refine bwS ?_ GE706.out | refine bwS ?_ GE715.out | refine bwS ?_ GE723.out | refine bwS ?_ GE727.out) | exact HB.out))); (case aF => exact (fun k_ hk => ⟨Kd.fresh' (Kd.R_lt (by (with_reducible repeat (first | apply Kd.R_alloc | apply Kd.R_drewN | apply Kd.R_drew)); exact (Kd.R_mono (Kd.R_far (p := ⟨gb727, 1, none⟩) (Kd.R_far (p := ⟨gb727, 0, none⟩) (Kd.R_mono HO_44.out (fun k_ hk => (⟨hk, hk.2⟩ : _ ∧ k_ ≠ gb727))) (fun _ hk => hk.2) (.int .i64 t724)) (fun _ hk => hk.2) (.int .i64 t725)) (fun _ h_ => h_.1)))) k_ hk, Kd.freshB (g := gb705) (o := .cells #[.int .i64 a0_0, .int .i64 a0_1] 25 (0, 0)) (by (with_reducible repeat (first | refine bkN ?_ _ | refine bkD ?_ | refine bkA ?_ _)); refine bkf ?_ NB705_727.out _; (with_reducible repeat (first | refine bkN ?_ _ | refine bkD ?_ | refine bkA ?_ _)); refine bkf ?_ NB705_727.out _; (with_reducible repeat (first | refine bkN ?_ _ | refine bkD ?_ | refine bkA ?_ _)); exact BK705.out) k_ hk, Kd.freshB (g := gb706) (o := .cells #[.int .i64 x707000_2, .int .i64 x707001_2] 25 (0, 0)) (by (with_reducible repeat (first | refine bkN ?_ _ | refine bkD ?_ | refine bkA ?_ _)); refine bkf ?_ NB706_727.out _; (with_reducible repeat (first | refine bkN ?_ _ | refine bkD ?_ | refine bkA ?_ _)); refine bkf ?_ NB706_727.out _; (with_reducible repeat (first | refine bkN ?_ _ | refine bkD ?_ | refine bkA ?_ _)); exact BK706.out) k_ hk, Kd.freshB (g := gb723) (o := .cells #[.int .i64 ((rd_T25 t719 x46_2).f0), .int .i64 ((rd_T25 t719 x46_2).f1)] 25 (0, 0)) (by (with_reducible repeat (first | refine bkN ?_ _ | refine bkD ?_ | refine bkA ?_ _)); refine bkf ?_ NB723_727.out _; (with_reducible repeat (first | refine bkN ?_ _ | refine bkD ?_ | refine bkA ?_ _)); refine bkf ?_ NB723_727.out _; (with_reducible repeat (first | refine bkN ?_ _ | refine bkD ?_ | refine bkA ?_ _)); exact BK723.out) k_ hk, Kd.freshB (g := gb727) (o := .cells #[.int .i64 t724, .int .i64 t725] 25 (0, 0)) (by (with_reducible repeat (first | refine bkN ?_ _ | refine bkD ?_ | refine bkA ?_ _)); refine bkp (cs := #[.int .i64 t724, .int .i64 0]) ?_ 1 _ rfl; (with_reducible repeat (first | refine bkN ?_ _ | refine bkD ?_ | refine bkA ?_ _)); refine bkp (cs := #[.int .i64 0, .int .i64 0]) ?_ 0 _ rfl; (with_reducible repeat (first | refine bkN ?_ _ | refine bkD ?_ | refine bkA ?_ _)); exact BK727.out) k_ hk⟩)); (case aO => exact (by (with_reducible repeat (first | apply Kd.R_alloc | apply Kd.R_drewN | apply Kd.R_drew)); exact Kd.R_mono (Kd.R_far (p := ⟨gb727, 1, none⟩) (Kd.R_far (p := ⟨gb727, 0, none⟩) (Kd.R_mono HO_8.out (fun k_ hk => (⟨hk, hk.2⟩ : _ ∧ k_ ≠ gb727))) (fun _ hk => hk.2) (.int .i64 t724)) (fun _ hk => hk.2) (.int .i64 t725)) (fun _ hk => ⟨hk.1.1.1.1, ⟨hk.1.1.1.2.1, ⟨hk.1.1.1.2.2, ⟨hk.1.1.2, hk.1.2⟩⟩⟩⟩))); (case aS => exact (bwZ (by repeat (first | (with_reducible first | exact HB.out | apply bwA | apply pbN | apply bwD | refine bwS ?_ GE705.out | refine bwS ?_ GE706.out | refine bwS ?_ GE715.out | refine bwS ?_ GE723.out | refine bwS ?_ GE727.out) | exact HB.out)))); (case aL => have := LMc50.out; omega); intro v729 w66 ho hb hg hat; rw [← Ny728.out] at ho; have n0_ := Az.mk (Kd.R_after (ok := (fun k_ => k_ ≠ gb705 ∧ k_ ≠ gb706 ∧ k_ ≠ gb723 ∧ k_ ≠ gb727)) (by (with_reducible repeat (first | apply Kd.R_alloc | apply Kd.R_drewN | apply Kd.R_drew)); exact Kd.R_mono (Kd.R_far (p := ⟨gb727, 1, none⟩) (Kd.R_far (p := ⟨gb727, 0, none⟩) (Kd.R_mono HO_44.out (fun k_ hk => (⟨hk, hk.2⟩ : _ ∧ k_ ≠ gb727))) (fun _ hk => hk.2) (.int .i64 t724)) (fun _ hk => hk.2) (.int .i64 t725)) (fun _ hk => ⟨⟨hk.1.1.1.2.1, ⟨hk.1.1.1.2.2, ⟨hk.1.1.2, hk.1.2⟩⟩⟩, hk.1.1.1.1⟩)) hg hat); have n1_ := Az.mk (blk_grown (g := gb705) (o := .cells #[.int .i64 a0_0, .int .i64 a0_1] 25 (0, 0)) (by (with_reducible repeat (first | refine bkN ?_ _ | refine bkD ?_ | refine bkA ?_ _)); refine bkf ?_ NB705_727.out _; (with_reducible repeat (first | refine bkN ?_ _ | refine bkD ?_ | refine bkA ?_ _)); refine bkf ?_ NB705_727.out _; (with_reducible repeat (first | refine bkN ?_ _ | refine bkD ?_ | refine bkA ?_ _)); exact BK705.out) hg (Kd.R_away HO_8.out (fun _ hk => hk.1.1.2.1))); have n2_ := Az.mk (blk_grown (g := gb706) (o := .cells #[.int .i64 x707000_2, .int .i64 x707001_2] 25 (0, 0)) (by (with_reducible repeat (first | refine bkN ?_ _ | refine bkD ?_ | refine bkA ?_ _)); refine bkf ?_ NB706_727.out _; (with_reducible repeat (first | refine bkN ?_ _ | refine bkD ?_ | refine bkA ?_ _)); refine bkf ?_ NB706_727.out _; (with_reducible repeat (first | refine bkN ?_ _ | refine bkD ?_ | refine bkA ?_ _)); exact BK706.out) hg (Kd.R_away HO_8.out (fun _ hk => hk.1.1.2.2))); have n3_ := Az.mk (blk_grown (g := gb715) (o := .cells #[.int .i64 t710, .int .i64 t711, .int .i64 t712, .int .i64 t713] 46 (0, 0)) (by (with_reducible repeat (first | refine bkN ?_ _ | refine bkD ?_ | refine bkA ?_ _)); refine bkf ?_ NB715_727.out _; (with_reducible repeat (first | refine bkN ?_ _ | refine bkD ?_ | refine bkA ?_ _)); refine bkf ?_ NB715_727.out _; (with_reducible repeat (first | refine bkN ?_ _ | refine bkD ?_ | refine bkA ?_ _)); exact BK715.out) hg (Kd.R_ne HO_8.out BK715.out (by decide))); have n4_ := Az.mk (blk_grown (g := gb723) (o := .cells #[.int .i64 ((rd_T25 t719 x46_2).f0), .int .i64 ((rd_T25 t719 x46_2).f1)] 25 (0, 0)) (by (with_reducible repeat (first | refine bkN ?_ _ | refine bkD ?_ | refine bkA ?_ _)); refine bkf ?_ NB723_727.out _; (with_reducible repeat (first | refine bkN ?_ _ | refine bkD ?_ | refine bkA ?_ _)); refine bkf ?_ NB723_727.out _; (with_reducible repeat (first | refine bkN ?_ _ | refine bkD ?_ | refine bkA ?_ _)); exact BK723.out) hg (Kd.R_away HO_8.out (fun _ hk => hk.1.2))); have n5_ := Az.mk (blk_grown (g := gb727) (o := .cells #[.int .i64 t724, .int .i64 t725] 25 (0, 0)) (by (with_reducible repeat (first | refine bkN ?_ _ | refine bkD ?_ | refine bkA ?_ _)); refine bkp (cs := #[.int .i64 t724, .int .i64 0]) ?_ 1 _ rfl; (with_reducible repeat (first | refine bkN ?_ _ | refine bkD ?_ | refine bkA ?_ _)); refine bkp (cs := #[.int .i64 0, .int .i64 0]) ?_ 0 _ rfl; (with_reducible repeat (first | refine bkN ?_ _ | refine bkD ?_ | refine bkA ?_ _)); exact BK727.out) hg (Kd.R_away HO_8.out (fun _ hk => hk.2))); have n6_ := Az.mk (hb); have n7_ := Az.mk (ho); clear HO_44; clear BK705; clear BK706; clear BK715; clear BK723; clear BK727; clear HB; clear HO_8; have HO_44 := n0_; have BK705 := n1_; have BK706 := n2_; have BK715 := n3_; have BK723 := n4_; have BK727 := n5_; have HB := n6_; have HO730 := n7_; clear n0_ n1_ n2_ n3_ n4_ n5_ n6_ n7_; clear ho hb hg hat))
            go_roundg k2
            case measure => have := HJ2.out; have := HK2.out; omega
            case rel => exact ⟨(y728), (wrap64 (x46_2 + 1)), (x707000_2), (x707001_2), (by first | rfl | (simp; done) | (simp [*]; done)), H', ⟨by have := HJ2.out; have := HK2.out; omega⟩, ⟨by (with_reducible repeat (first | apply Kd.R_alloc | apply Kd.R_drewN | apply Kd.R_drew)); exact Kd.R_mono HO730.out (fun _ hk => ⟨hk.1, ⟨hk.2.1, hk.2.2.1⟩⟩)⟩, ⟨by (with_reducible repeat (first | apply Kd.R_alloc | apply Kd.R_drewN | apply Kd.R_drew)); exact Kd.R_mono HO_44.out (fun _ hk => ⟨hk.2, ⟨hk.1.1, hk.1.2.1⟩⟩)⟩, ⟨by (with_reducible repeat (first | refine bkN ?_ _ | refine bkD ?_ | refine bkA ?_ _)); exact BK705.out⟩, ⟨by (with_reducible repeat (first | refine bkN ?_ _ | refine bkD ?_ | refine bkA ?_ _)); exact BK706.out⟩, ⟨by (with_reducible repeat (first | refine bkN ?_ _ | refine bkD ?_ | refine bkA ?_ _)); exact BK715.out⟩, ⟨by repeat (first | (with_reducible first | exact HB.out | apply bwA | apply pbN | apply bwD | refine bwS ?_ GE705.out | refine bwS ?_ GE706.out | refine bwS ?_ GE715.out | refine bwS ?_ GE723.out | refine bwS ?_ GE727.out) | exact HB.out)⟩⟩
           ·rw [if_neg c50] at H
            exact absurd H (by simp)
          ·replace c49 := Bool.eq_false_iff.mpr c49
           subst c49
           have H1 : (some (0, 0, false)) = some (r1, r2, r3) := by rw [if_neg (show ¬ (false = true) by decide)] at H; exact H
           clear H
           have H := H1
           clear H1
           simp only [Option.some.injEq, Prod.mk.injEq] at H
           obtain ⟨rfl, rfl, rfl⟩ := H
           have p722 : 0 ≤ (x46_2 : Int) := of_decide_eq_true (by first | (with_reducible assumption) | assumption)
           have q722 : x46_2 < (t719.length : Int) := of_decide_eq_true (by first | (with_reducible assumption) | assumption)
           obtain ⟨ad722, e722, hx722_0, hx722_1⟩ := at_T25 (Kd.R_reads' HO_44.out).2.2 x46_2 p722 q722
           cases e722
           replace p722 := eq_true p722
           replace q722 := eq_true q722
           go_wp2_with (first | ((with_reducible refine gtD (N := 10) rfl ?_); refine bxE ?hg (N := 10) ?hd (cs := #[.int .i64 0, .int .i64 0]) (t := 25) ?hr ?_; (case hd => rfl); (case hg => rfl); (case hr => first | (go_simp; done) | (go_simp; rfl)); intro gb723 hg w67 hbox hb; have n0_ := Az.mk (Kd.R_below (Kd.R_elderB (by (with_reducible repeat (first | apply Kd.R_alloc | apply Kd.R_drewN | apply Kd.R_drew)); exact HO_8.out) gb723 (Nat.le_of_eq hg.symm)) hb); have n1_ := Az.mk (Kd.R_below (Kd.R_elderB (by (with_reducible repeat (first | apply Kd.R_alloc | apply Kd.R_drewN | apply Kd.R_drew)); exact HO_44.out) gb723 (Nat.le_of_eq hg.symm)) hb); have n2_ := Az.mk (bkB (g := gb705) (o := .cells #[.int .i64 a0_0, .int .i64 a0_1] 25 (0, 0)) (by (with_reducible repeat (first | refine bkN ?_ _ | refine bkD ?_ | refine bkA ?_ _)); exact BK705.out) hb); have n3_ := Az.mk (bkB (g := gb706) (o := .cells #[.int .i64 x707000_2, .int .i64 x707001_2] 25 (0, 0)) (by (with_reducible repeat (first | refine bkN ?_ _ | refine bkD ?_ | refine bkA ?_ _)); exact BK706.out) hb); have n4_ := Az.mk (bkB (g := gb715) (o := .cells #[.int .i64 t710, .int .i64 t711, .int .i64 t712, .int .i64 t713] 46 (0, 0)) (by (with_reducible repeat (first | refine bkN ?_ _ | refine bkD ?_ | refine bkA ?_ _)); exact BK715.out) hb); have n5_ := Az.mk (bwT (by repeat (first | (with_reducible first | exact HB.out | apply bwA | apply pbN | apply bwD | refine bwS ?_ GE705.out | refine bwS ?_ GE706.out | refine bwS ?_ GE715.out) | exact HB.out)) hb); have n6_ := Az.mk (hbox); have n7_ := Az.mk ((by rw [hg]; exact (bwZ (by repeat (first | (with_reducible first | exact HB.out | apply bwA | apply pbN | apply bwD | refine bwS ?_ GE705.out | refine bwS ?_ GE706.out | refine bwS ?_ GE715.out) | exact HB.out))) : w.heap.size ≤ gb723)); have n8_ := Az.mk ((by rw [hg]; exact (bwZ (by repeat (first | (with_reducible first | exact HB.out | apply bwA | apply pbN | apply bwD | refine bwS ?_ GE705.out | refine bwS ?_ GE706.out | refine bwS ?_ GE715.out) | exact HB.out))) : w.heap.size ≤ gb723)); have n9_ := Az.mk ((by rw [hg]; exact Nat.ne_of_lt (blk_lt (g := gb705) (o := .cells #[.int .i64 a0_0, .int .i64 a0_1] 25 (0, 0)) (by (with_reducible repeat (first | refine bkN ?_ _ | refine bkD ?_ | refine bkA ?_ _)); exact BK705.out)) : gb705 ≠ gb723)); have n10_ := Az.mk ((by rw [hg]; exact Nat.ne_of_gt (blk_lt (g := gb705) (o := .cells #[.int .i64 a0_0, .int .i64 a0_1] 25 (0, 0)) (by (with_reducible repeat (first | refine bkN ?_ _ | refine bkD ?_ | refine bkA ?_ _)); exact BK705.out)) : gb723 ≠ gb705)); have n11_ := Az.mk ((by rw [hg]; exact Nat.ne_of_lt (blk_lt (g := gb706) (o := .cells #[.int .i64 x707000_2, .int .i64 x707001_2] 25 (0, 0)) (by (with_reducible repeat (first | refine bkN ?_ _ | refine bkD ?_ | refine bkA ?_ _)); exact BK706.out)) : gb706 ≠ gb723)); have n12_ := Az.mk ((by rw [hg]; exact Nat.ne_of_gt (blk_lt (g := gb706) (o := .cells #[.int .i64 x707000_2, .int .i64 x707001_2] 25 (0, 0)) (by (with_reducible repeat (first | refine bkN ?_ _ | refine bkD ?_ | refine bkA ?_ _)); exact BK706.out)) : gb723 ≠ gb706)); have n13_ := Az.mk ((by rw [hg]; exact Nat.ne_of_lt (blk_lt (g := gb715) (o := .cells #[.int .i64 t710, .int .i64 t711, .int .i64 t712, .int .i64 t713] 46 (0, 0)) (by (with_reducible repeat (first | refine bkN ?_ _ | refine bkD ?_ | refine bkA ?_ _)); exact BK715.out)) : gb715 ≠ gb723)); have n14_ := Az.mk ((by rw [hg]; exact Nat.ne_of_gt (blk_lt (g := gb715) (o := .cells #[.int .i64 t710, .int .i64 t711, .int .i64 t712, .int .i64 t713] 46 (0, 0)) (by (with_reducible repeat (first | refine bkN ?_ _ | refine bkD ?_ | refine bkA ?_ _)); exact BK715.out)) : gb723 ≠ gb715)); clear HO_8; clear HO_44; clear BK705; clear BK706; clear BK715; clear HB; have HO_8 := n0_; have HO_44 := n1_; have BK705 := n2_; have BK706 := n3_; have BK715 := n4_; have HB := n5_; have BK723 := n6_; have GW723 := n7_; have GE723 := n8_; have NB705_723 := n9_; have NB723_705 := n10_; have NB706_723 := n11_; have NB723_706 := n12_; have NB715_723 := n13_; have NB723_715 := n14_; clear n0_ n1_ n2_ n3_ n4_ n5_ n6_ n7_ n8_ n9_ n10_ n11_ n12_ n13_ n14_; clear hb hbox hg; have hnb68 := NB723_705.out; have hnc68 := NB705_723.out; have hnb69 := NB723_706.out; have hnc69 := NB706_723.out; have hnb70 := NB723_715.out; have hnc70 := NB715_723.out; have hcz71_0 : w67.cell? ⟨gb723, 0, none⟩ = some (.int .i64 0) := (bkC BK723.out 0).trans rfl; have hcz71_1 : w67.cell? ⟨gb723, 1, none⟩ = some (.int .i64 0) := (bkC BK723.out 1).trans rfl; have hfz71_0 := bkF BK723.out 0; have hfz71_1 := bkF BK723.out 1; have hnb72 := NB715_705.out; have hnc72 := NB705_715.out; have hnb73 := NB715_706.out; have hnc73 := NB706_715.out; have hcz74_0 : w67.cell? ⟨gb715, 0, none⟩ = some (.int .i64 t710) := (bkC BK715.out 0).trans rfl; have hcz74_1 : w67.cell? ⟨gb715, 1, none⟩ = some (.int .i64 t711) := (bkC BK715.out 1).trans rfl; have hcz74_2 : w67.cell? ⟨gb715, 2, none⟩ = some (.int .i64 t712) := (bkC BK715.out 2).trans rfl; have hcz74_3 : w67.cell? ⟨gb715, 3, none⟩ = some (.int .i64 t713) := (bkC BK715.out 3).trans rfl; have hfz74_0 := bkF BK715.out 0; have hfz74_1 := bkF BK715.out 1; have hfz74_2 := bkF BK715.out 2; have hfz74_3 := bkF BK715.out 3) | ((with_reducible refine gtC (f := 72) rfl ?_); refine goesL_ (some 53) rfl rfl Try.func72 (by kernel_rfl) rfl #[.agg #[.int .i64 t710, .int .i64 t711, .int .i64 t712, .int .i64 t713], .agg #[.int .i64 ((rd_T25 t719 x46_2).f0), .int .i64 ((rd_T25 t719 x46_2).f1)]] rfl (by (try simp only [List.map_toArray, List.map_cons, List.map_nil]); first | done | rfl | (simp only [List.length_drop, List.length_take]; rfl)) ?_; (with_reducible refine (impl_MoveSlope.calls k2 t710 t711 t712 t713 ((rd_T25 t719 x46_2).f0) ((rd_T25 t719 x46_2).f1) t724 t725 false _ A48.out).mono ?_); rintro e w75 ⟨rfl, hb⟩; refine ⟨_, rfl, ?_⟩; have n0_ := Az.mk (Kd.R_below (by (with_reducible repeat (first | apply Kd.R_alloc | apply Kd.R_drewN | apply Kd.R_drew)); exact (Kd.R_mono (Kd.R_far (p := ⟨gb723, 1, none⟩) (Kd.R_far (p := ⟨gb723, 0, none⟩) (Kd.R_mono HO_8.out (fun k_ hk => (⟨hk, hk.2⟩ : _ ∧ k_ ≠ gb723))) (fun _ hk => hk.2) (.int .i64 ((rd_T25 t719 x46_2).f0))) (fun _ hk => hk.2) (.int .i64 ((rd_T25 t719 x46_2).f1))) (fun _ h_ => h_.1))) hb); have n1_ := Az.mk (Kd.R_below (by (with_reducible repeat (first | apply Kd.R_alloc | apply Kd.R_drewN | apply Kd.R_drew)); exact (Kd.R_mono (Kd.R_far (p := ⟨gb723, 1, none⟩) (Kd.R_far (p := ⟨gb723, 0, none⟩) (Kd.R_mono HO_44.out (fun k_ hk => (⟨hk, hk.2⟩ : _ ∧ k_ ≠ gb723))) (fun _ hk => hk.2) (.int .i64 ((rd_T25 t719 x46_2).f0))) (fun _ hk => hk.2) (.int .i64 ((rd_T25 t719 x46_2).f1))) (fun _ h_ => h_.1))) hb); have n2_ := Az.mk (bkB (g := gb705) (o := .cells #[.int .i64 a0_0, .int .i64 a0_1] 25 (0, 0)) (by (with_reducible repeat (first | refine bkN ?_ _ | refine bkD ?_ | refine bkA ?_ _)); refine bkf ?_ NB705_723.out _; (with_reducible repeat (first | refine bkN ?_ _ | refine bkD ?_ | refine bkA ?_ _)); refine bkf ?_ NB705_723.out _; (with_reducible repeat (first | refine bkN ?_ _ | refine bkD ?_ | refine bkA ?_ _)); exact BK705.out) hb); have n3_ := Az.mk (bkB (g := gb706) (o := .cells #[.int .i64 x707000_2, .int .i64 x707001_2] 25 (0, 0)) (by (with_reducible repeat (first | refine bkN ?_ _ | refine bkD ?_ | refine bkA ?_ _)); refine bkf ?_ NB706_723.out _; (with_reducible repeat (first | refine bkN ?_ _ | refine bkD ?_ | refine bkA ?_ _)); refine bkf ?_ NB706_723.out _; (with_reducible repeat (first | refine bkN ?_ _ | refine bkD ?_ | refine bkA ?_ _)); exact BK706.out) hb); have n4_ := Az.mk (bkB (g := gb715) (o := .cells #[.int .i64 t710, .int .i64 t711, .int .i64 t712, .int .i64 t713] 46 (0, 0)) (by (with_reducible repeat (first | refine bkN ?_ _ | refine bkD ?_ | refine bkA ?_ _)); refine bkf ?_ NB715_723.out _; (with_reducible repeat (first | refine bkN ?_ _ | refine bkD ?_ | refine bkA ?_ _)); refine bkf ?_ NB715_723.out _; (with_reducible repeat (first | refine bkN ?_ _ | refine bkD ?_ | refine bkA ?_ _)); exact BK715.out) hb); have n5_ := Az.mk (bkB (g := gb723) (o := .cells #[.int .i64 ((rd_T25 t719 x46_2).f0), .int .i64 ((rd_T25 t719 x46_2).f1)] 25 (0, 0)) (by (with_reducible repeat (first | refine bkN ?_ _ | refine bkD ?_ | refine bkA ?_ _)); refine bkp (cs := #[.int .i64 ((rd_T25 t719 x46_2).f0), .int .i64 0]) ?_ 1 _ rfl; (with_reducible repeat (first | refine bkN ?_ _ | refine bkD ?_ | refine bkA ?_ _)); refine bkp (cs := #[.int .i64 0, .int .i64 0]) ?_ 0 _ rfl; (with_reducible repeat (first | refine bkN ?_ _ | refine bkD ?_ | refine bkA ?_ _)); exact BK723.out) hb); have n6_ := Az.mk (bwT (by repeat (first | (with_reducible first | exact HB.out | apply bwA | apply pbN | apply bwD | refine bwS ?_ GE705.out | refine bwS ?_ GE706.out | refine bwS ?_ GE715.out | refine bwS ?_ GE723.out) | exact HB.out)) hb); clear HO_8; clear HO_44; clear BK705; clear BK706; clear BK715; clear BK723; clear HB; have HO_8 := n0_; have HO_44 := n1_; have BK705 := n2_; have BK706 := n3_; have BK715 := n4_; have BK723 := n5_; have HB := n6_; clear n0_ n1_ n2_ n3_ n4_ n5_ n6_; (try clear hb); (try clear hb2); (try clear hk); (try clear hi)) | ((with_reducible refine gtD (N := 11) rfl ?_); refine bxE ?hg (N := 11) ?hd (cs := #[.int .i64 0, .int .i64 0]) (t := 25) ?hr ?_; (case hd => rfl); (case hg => rfl); (case hr => first | (go_simp; done) | (go_simp; rfl)); intro gb727 hg w76 hbox hb; have n0_ := Az.mk (Kd.R_below (Kd.R_elderB (by (with_reducible repeat (first | apply Kd.R_alloc | apply Kd.R_drewN | apply Kd.R_drew)); exact HO_8.out) gb727 (Nat.le_of_eq hg.symm)) hb); have n1_ := Az.mk (Kd.R_below (Kd.R_elderB (by (with_reducible repeat (first | apply Kd.R_alloc | apply Kd.R_drewN | apply Kd.R_drew)); exact HO_44.out) gb727 (Nat.le_of_eq hg.symm)) hb); have n2_ := Az.mk (bkB (g := gb705) (o := .cells #[.int .i64 a0_0, .int .i64 a0_1] 25 (0, 0)) (by (with_reducible repeat (first | refine bkN ?_ _ | refine bkD ?_ | refine bkA ?_ _)); exact BK705.out) hb); have n3_ := Az.mk (bkB (g := gb706) (o := .cells #[.int .i64 x707000_2, .int .i64 x707001_2] 25 (0, 0)) (by (with_reducible repeat (first | refine bkN ?_ _ | refine bkD ?_ | refine bkA ?_ _)); exact BK706.out) hb); have n4_ := Az.mk (bkB (g := gb715) (o := .cells #[.int .i64 t710, .int .i64 t711, .int .i64 t712, .int .i64 t713] 46 (0, 0)) (by (with_reducible repeat (first | refine bkN ?_ _ | refine bkD ?_ | refine bkA ?_ _)); exact BK715.out) hb); have n5_ := Az.mk (bkB (g := gb723) (o := .cells #[.int .i64 ((rd_T25 t719 x46_2).f0), .int .i64 ((rd_T25 t719 x46_2).f1)] 25 (0, 0)) (by (with_reducible repeat (first | refine bkN ?_ _ | refine bkD ?_ | refine bkA ?_ _)); exact BK723.out) hb); have n6_ := Az.mk (bwT (by repeat (first | (with_reducible first | exact HB.out | apply bwA | apply pbN | apply bwD | refine bwS ?_ GE705.out | refine bwS ?_ GE706.out | refine bwS ?_ GE715.out | refine bwS ?_ GE723.out) | exact HB.out)) hb); have n7_ := Az.mk (hbox); have n8_ := Az.mk ((by rw [hg]; exact (bwZ (by repeat (first | (with_reducible first | exact HB.out | apply bwA | apply pbN | apply bwD | refine bwS ?_ GE705.out | refine bwS ?_ GE706.out | refine bwS ?_ GE715.out | refine bwS ?_ GE723.out) | exact HB.out))) : w.heap.size ≤ gb727)); have n9_ := Az.mk ((by rw [hg]; exact (bwZ (by repeat (first | (with_reducible first | exact HB.out | apply bwA | apply pbN | apply bwD | refine bwS ?_ GE705.out | refine bwS ?_ GE706.out | refine bwS ?_ GE715.out | refine bwS ?_ GE723.out) | exact HB.out))) : w.heap.size ≤ gb727)); have n10_ := Az.mk ((by rw [hg]; exact Nat.ne_of_lt (blk_lt (g := gb705) (o := .cells #[.int .i64 a0_0, .int .i64 a0_1] 25 (0, 0)) (by (with_reducible repeat (first | refine bkN ?_ _ | refine bkD ?_ | refine bkA ?_ _)); exact BK705.out)) : gb705 ≠ gb727)); have n11_ := Az.mk ((by rw [hg]; exact Nat.ne_of_gt (blk_lt (g := gb705) (o := .cells #[.int .i64 a0_0, .int .i64 a0_1] 25 (0, 0)) (by (with_reducible repeat (first | refine bkN ?_ _ | refine bkD ?_ | refine bkA ?_ _)); exact BK705.out)) : gb727 ≠ gb705)); have n12_ := Az.mk ((by rw [hg]; exact Nat.ne_of_lt (blk_lt (g := gb706) (o := .cells #[.int .i64 x707000_2, .int .i64 x707001_2] 25 (0, 0)) (by (with_reducible repeat (first | refine bkN ?_ _ | refine bkD ?_ | refine bkA ?_ _)); exact BK706.out)) : gb706 ≠ gb727)); have n13_ := Az.mk ((by rw [hg]; exact Nat.ne_of_gt (blk_lt (g := gb706) (o := .cells #[.int .i64 x707000_2, .int .i64 x707001_2] 25 (0, 0)) (by (with_reducible repeat (first | refine bkN ?_ _ | refine bkD ?_ | refine bkA ?_ _)); exact BK706.out)) : gb727 ≠ gb706)); have n14_ := Az.mk ((by rw [hg]; exact Nat.ne_of_lt (blk_lt (g := gb715) (o := .cells #[.int .i64 t710, .int .i64 t711, .int .i64 t712, .int .i64 t713] 46 (0, 0)) (by (with_reducible repeat (first | refine bkN ?_ _ | refine bkD ?_ | refine bkA ?_ _)); exact BK715.out)) : gb715 ≠ gb727)); have n15_ := Az.mk ((by rw [hg]; exact Nat.ne_of_gt (blk_lt (g := gb715) (o := .cells #[.int .i64 t710, .int .i64 t711, .int .i64 t712, .int .i64 t713] 46 (0, 0)) (by (with_reducible repeat (first | refine bkN ?_ _ | refine bkD ?_ | refine bkA ?_ _)); exact BK715.out)) : gb727 ≠ gb715)); have n16_ := Az.mk ((by rw [hg]; exact Nat.ne_of_lt (blk_lt (g := gb723) (o := .cells #[.int .i64 ((rd_T25 t719 x46_2).f0), .int .i64 ((rd_T25 t719 x46_2).f1)] 25 (0, 0)) (by (with_reducible repeat (first | refine bkN ?_ _ | refine bkD ?_ | refine bkA ?_ _)); exact BK723.out)) : gb723 ≠ gb727)); have n17_ := Az.mk ((by rw [hg]; exact Nat.ne_of_gt (blk_lt (g := gb723) (o := .cells #[.int .i64 ((rd_T25 t719 x46_2).f0), .int .i64 ((rd_T25 t719 x46_2).f1)] 25 (0, 0)) (by (with_reducible repeat (first | refine bkN ?_ _ | refine bkD ?_ | refine bkA ?_ _)); exact BK723.out)) : gb727 ≠ gb723)); clear HO_8; clear HO_44; clear BK705; clear BK706; clear BK715; clear BK723; clear HB; have HO_8 := n0_; have HO_44 := n1_; have BK705 := n2_; have BK706 := n3_; have BK715 := n4_; have BK723 := n5_; have HB := n6_; have BK727 := n7_; have GW727 := n8_; have GE727 := n9_; have NB705_727 := n10_; have NB727_705 := n11_; have NB706_727 := n12_; have NB727_706 := n13_; have NB715_727 := n14_; have NB727_715 := n15_; have NB723_727 := n16_; have NB727_723 := n17_; clear n0_ n1_ n2_ n3_ n4_ n5_ n6_ n7_ n8_ n9_ n10_ n11_ n12_ n13_ n14_ n15_ n16_ n17_; clear hb hbox hg; have hnb77 := NB727_705.out; have hnc77 := NB705_727.out; have hnb78 := NB727_706.out; have hnc78 := NB706_727.out; have hnb79 := NB727_715.out; have hnc79 := NB715_727.out; have hnb80 := NB727_723.out; have hnc80 := NB723_727.out; have hcz81_0 : w76.cell? ⟨gb727, 0, none⟩ = some (.int .i64 0) := (bkC BK727.out 0).trans rfl; have hcz81_1 : w76.cell? ⟨gb727, 1, none⟩ = some (.int .i64 0) := (bkC BK727.out 1).trans rfl; have hfz81_0 := bkF BK727.out 0; have hfz81_1 := bkF BK727.out 1; have hnb82 := NB706_705.out; have hnc82 := NB705_706.out; have hcz83_0 : w76.cell? ⟨gb706, 0, none⟩ = some (.int .i64 x707000_2) := (bkC BK706.out 0).trans rfl; have hcz83_1 : w76.cell? ⟨gb706, 1, none⟩ = some (.int .i64 x707001_2) := (bkC BK706.out 1).trans rfl; have hfz83_0 := bkF BK706.out 0; have hfz83_1 := bkF BK706.out 1))
           refine bodyPost_ret (results_ct rfl _ _ gb706 25 #[.int .i64 0, .int .i64 0] (0, 0) _ rfl (by (with_reducible repeat (first | refine bkN ?_ _ | refine bkD ?_ | refine bkA ?_ _)); refine bkp (cs := #[.int .i64 0, .int .i64 x707001_2]) ?_ 1 _ rfl; (with_reducible repeat (first | refine bkN ?_ _ | refine bkD ?_ | refine bkA ?_ _)); refine bkp (cs := #[.int .i64 x707000_2, .int .i64 x707001_2]) ?_ 0 _ rfl; (with_reducible repeat (first | refine bkN ?_ _ | refine bkD ?_ | refine bkA ?_ _)); refine bkf ?_ NB706_727.out _; (with_reducible repeat (first | refine bkN ?_ _ | refine bkD ?_ | refine bkA ?_ _)); refine bkf ?_ NB706_727.out _; (with_reducible repeat (first | refine bkN ?_ _ | refine bkD ?_ | refine bkA ?_ _)); exact BK706.out) Try.underlying25 rfl (by kernel_rfl)) rfl ?_
           exact ⟨by first | rfl | (simp [eWn, eWs] <;> rfl) | (simp [*, eWn, eWs] <;> rfl), by repeat (first | (with_reducible first | exact HB.out | apply bwA | apply pbN | apply bwD | refine bwS ?_ GE705.out | refine bwS ?_ GE706.out | refine bwS ?_ GE715.out | refine bwS ?_ GE723.out | refine bwS ?_ GE727.out) | exact HB.out)⟩
         ·rw [if_neg c47] at H
          exact absurd H (by simp)
        ·rw [if_neg c46] at H
         exact absurd H (by simp)
       ·rw [if_neg c45] at H
        have c45b0 : decide (x46_2 < (t719.length : Int)) = false := decide_eq_false c45
        clear c45
        obtain ⟨ji84, hji84⟩ : ∃ j_ : Int, (Int.tmod a1 3) = j_ := ⟨_, rfl⟩
        replace H : (if 0 ≤ (ji84) then (if (ji84) < (x8_2.length : Int) then (if 0 ≤ (Int.tmod (wrap64 (a1 + 1)) 3) then (if (Int.tmod (wrap64 (a1 + 1)) 3) < (x8_2.length : Int) then ((impl_CommonNeighbours.f k2 ((rd_T25 x8_2 (ji84)).f0) ((rd_T25 x8_2 (ji84)).f1) ((rd_T25 x8_2 (Int.tmod (wrap64 (a1 + 1)) 3)).f0) ((rd_T25 x8_2 (Int.tmod (wrap64 (a1 + 1)) 3)).f1)).bind fun t733 => (impl_FlipSlope.l1 k2 a1 x8_2 t733 (t733.length : Int) 0)) else (none)) else (none)) else (none)) else (none)) = some (r1, r2, r3) := by first | (rw [hji84] at H; exact H) | (simp only [hji84] at H ⊢; exact H)
        by_cases c85 : 0 ≤ (ji84)
        ·rw [if_pos c85] at H
         have c85b0 : decide (0 ≤ (ji84)) = true := decide_eq_true c85
         clear c85
         by_cases c86 : (ji84) < (x8_2.length : Int)
         ·rw [if_pos c86] at H
          have c86b0 : decide ((ji84) < (x8_2.length : Int)) = true := decide_eq_true c86
          clear c86
          obtain ⟨ji87, hji87⟩ : ∃ j_ : Int, (Int.tmod (wrap64 (a1 + 1)) 3) = j_ := ⟨_, rfl⟩
          replace H : (if 0 ≤ (ji87) then (if (ji87) < (x8_2.length : Int) then ((impl_CommonNeighbours.f k2 ((rd_T25 x8_2 (ji84)).f0) ((rd_T25 x8_2 (ji84)).f1) ((rd_T25 x8_2 (ji87)).f0) ((rd_T25 x8_2 (ji87)).f1)).bind fun t733 => (impl_FlipSlope.l1 k2 a1 x8_2 t733 (t733.length : Int) 0)) else (none)) else (none)) = some (r1, r2, r3) := by first | (rw [hji87] at H; exact H) | (simp only [hji87] at H ⊢; exact H)
          by_cases c88 : 0 ≤ (ji87)
          ·rw [if_pos c88] at H
           have c88b0 : decide (0 ≤ (ji87)) = true := decide_eq_true c88
           clear c88
           by_cases c89 : (ji87) < (x8_2.length : Int)
           ·rw [if_pos c89] at H
            have c89b0 : decide ((ji87) < (x8_2.length : Int)) = true := decide_eq_true c89
            clear c89
            replace H := Option.bind_eq_some_iff.mp H
            obtain ⟨t733, A900, H⟩ := H
            replace H : (impl_FlipSlope.l1 k2 a1 x8_2 t733 (t733.length : Int) 0) = some (r1, r2, r3) := H
            have A90 := Az.mk A900
            clear A900
            have H' := Az.mk H
            clear H
            try go_wp2
            have n0_ := Az.mk (Kd.R_drew HO_8.out)
            have n1_ := Az.mk (Kd.R_drew HO_44.out)
            have n2_ := Az.mk (bkD BK705.out)
            have n3_ := Az.mk (bkD BK706.out)
            have n4_ := Az.mk (bkD BK715.out)
            have n5_ := Az.mk (bwD HB.out)
            clear HO_8
            clear HO_44
            clear BK705
            clear BK706
            clear BK715
            clear HB
            have HO_8 := n0_
            have HO_44 := n1_
            have BK705 := n2_
            have BK706 := n3_
            have BK715 := n4_
            have HB := n5_
            clear n0_ n1_ n2_ n3_ n4_ n5_
            obtain ⟨Ao92, co92, eo92⟩ := Kd.R_slice HO_8.out
            (first | subst eo92 | (injection eo92 with f1_ f2_ f3_; have f4_ := f1_.symm; have f5_ := f3_.symm; clear f1_ f2_ f3_; subst f4_; subst f5_))
            have p731 : 0 ≤ ((ji84) : Int) := of_decide_eq_true (by first | (with_reducible assumption) | assumption)
            have q731 : (ji84) < (x8_2.length : Int) := of_decide_eq_true (by first | (with_reducible assumption) | assumption)
            obtain ⟨ad731, e731, hx731_0, hx731_1⟩ := at_T25 (Kd.R_reads' HO_8.out).2.2 (ji84) p731 q731
            cases e731
            replace p731 := eq_true p731
            replace q731 := eq_true q731
            have p732 : 0 ≤ ((ji87) : Int) := of_decide_eq_true (by first | (with_reducible assumption) | assumption)
            have q732 : (ji87) < (x8_2.length : Int) := of_decide_eq_true (by first | (with_reducible assumption) | assumption)
            obtain ⟨ad732, e732, hx732_0, hx732_1⟩ := at_T25 (Kd.R_reads' HO_8.out).2.2 (ji87) p732 q732
            obtain rfl : ad731 = ad732 := (by injection e732)
            replace p732 := eq_true p732
            replace q732 := eq_true q732
            refine start_ (n := 14) (S := fun w' => w'.cell? (ad731.add (((ji84)).toNat * 2)) = some (.int .i64 ((rd_T25 x8_2 (ji84)).f0)) ∧ w'.cell? ⟨(ad731.add (((ji84)).toNat * 2)).block, (ad731.add (((ji84)).toNat * 2)).off + 1, none⟩ = some (.int .i64 ((rd_T25 x8_2 (ji84)).f1)) ∧ w'.cell? (ad731.add (((ji87)).toNat * 2)) = some (.int .i64 ((rd_T25 x8_2 (ji87)).f0)) ∧ w'.cell? ⟨(ad731.add (((ji87)).toNat * 2)).block, (ad731.add (((ji87)).toNat * 2)).off + 1, none⟩ = some (.int .i64 ((rd_T25 x8_2 (ji87)).f1))) (ds := []) #[false, false, false, false, false, false, false, false, false, false, false, false, false, false] (by kernel_rfl) rfl rfl ⟨hx731_0, hx731_1, hx732_0, hx732_1⟩ (fun hHeld => ?_); refine with_tabW impl_FlipSlope.tab15 impl_FlipSlope.bits15 (fun HT_ HW_ => ?_)
            generalize wr.drew = w91 at HO_8 HO_44 BK705 BK706 BK715 HB hx731_0 hx731_1 hx732_0 hx732_1 hHeld ⊢
            refine pure_ (i := 0) (N := some 64) (v := ?_) (a' := ?_) #[true, false, false, false, false, false, false, false, false, false, false, false, false, false] rfl rfl (any_of HT_.out (by kernel_rfl)) (fun _ _ _ h => h) (Or.inl ⟨by rfl, ?_⟩) ?_ ?_
            rotate_left
            ·intro w'
             go_simp
             with_reducible rfl
            rotate_left
            ·simp only [Act.put, List.setIfInBounds_toArray, List.set_cons_zero, List.set_cons_succ, i64_w, i32_w]
             rfl
            refine pure_ (i := 1) (N := some 65) (v := ?_) (a' := ?_) #[true, true, false, false, false, false, false, false, false, false, false, false, false, false] rfl rfl (any_of HT_.out (by kernel_rfl)) (fun _ _ _ h => h) (Or.inl ⟨by rfl, ?_⟩) ?_ ?_
            rotate_left
            ·intro w'
             go_simp
             with_reducible rfl
            rotate_left
            ·simp only [Act.put, List.setIfInBounds_toArray, List.set_cons_zero, List.set_cons_succ, i64_w, i32_w]
             rfl
            refine pure_ (i := 2) (N := some 66) (v := ?_) (a' := ?_) #[true, true, true, false, false, false, false, false, false, false, false, false, false, false] rfl rfl (any_of HT_.out (by kernel_rfl)) (fun _ _ _ h => h) (Or.inl ⟨by rfl, ?_⟩) ?_ ?_
            rotate_left
            ·intro w'
             go_simp
             with_reducible rfl
            rotate_left
            ·simp only [Act.put, List.setIfInBounds_toArray, List.set_cons_zero, List.set_cons_succ, i64_w, i32_w]
             rfl
            refine pure_ (i := 3) (N := some 67) (v := ?_) (a' := ?_) #[true, true, true, true, false, false, false, false, false, false, false, false, false, false] rfl rfl (any_of HT_.out (by kernel_rfl)) (fun _ _ _ h => h) (Or.inl ⟨by rfl, ?_⟩) ?_ ?_
            rotate_left
            ·intro w'
             go_simp
             with_reducible rfl
            rotate_left
            ·simp only [Act.put, List.setIfInBounds_toArray, List.set_cons_zero, List.set_cons_succ, i64_w, i32_w]
             rfl
            refine pure_ (i := 5) (N := some 69) (v := ?_) (a' := ?_) #[true, true, true, true, false, true, false, false, false, false, false, false, false, false] rfl rfl (any_of HT_.out (by kernel_rfl)) (fun _ _ _ h => h) (Or.inl ⟨by rfl, ?_⟩) ?_ ?_
            rotate_left
            ·intro w'
             go_simp
             with_reducible rfl
            rotate_left
            ·simp only [Act.put, List.setIfInBounds_toArray, List.set_cons_zero, List.set_cons_succ, i64_w, i32_w]
             rfl
            refine pure_ (i := 6) (N := some 70) (v := ?_) (a' := ?_) #[true, true, true, true, false, true, true, false, false, false, false, false, false, false] rfl rfl (any_of HT_.out (by kernel_rfl)) (fun _ _ _ h => h) (Or.inl ⟨by rfl, ?_⟩) ?_ ?_
            rotate_left
            ·intro w'
             go_simp
             with_reducible rfl
            rotate_left
            ·simp only [Act.put, List.setIfInBounds_toArray, List.set_cons_zero, List.set_cons_succ, i64_w, i32_w]
             rfl
            refine pure_ (i := 7) (N := some 71) (v := ?_) (a' := ?_) #[true, true, true, true, false, true, true, true, false, false, false, false, false, false] rfl rfl (any_of HT_.out (by kernel_rfl)) (fun _ _ _ h => h) (Or.inl ⟨by rfl, ?_⟩) ?_ ?_
            rotate_left
            ·intro w'
             go_simp
             with_reducible rfl
            rotate_left
            ·simp only [Act.put, List.setIfInBounds_toArray, List.set_cons_zero, List.set_cons_succ, i64_w, i32_w]
             rfl
            refine pure_ (i := 8) (N := some 72) (v := ?_) (a' := ?_) #[true, true, true, true, false, true, true, true, true, false, false, false, false, false] rfl rfl (any_of HT_.out (by kernel_rfl)) (fun _ _ _ h => h) (Or.inl ⟨by rfl, ?_⟩) ?_ ?_
            rotate_left
            ·intro w'
             go_simp
             with_reducible rfl
            rotate_left
            ·simp only [Act.put, List.setIfInBounds_toArray, List.set_cons_zero, List.set_cons_succ, i64_w, i32_w]
             rfl
            refine pure_ (i := 9) (N := some 73) (v := ?_) (a' := ?_) #[true, true, true, true, false, true, true, true, true, true, false, false, false, false] rfl rfl (any_of HT_.out (by kernel_rfl)) (fun _ _ _ h => h) (Or.inl ⟨by rfl, ?_⟩) ?_ ?_
            rotate_left
            ·intro w'
             go_simp
             with_reducible rfl
            rotate_left
            ·simp only [Act.put, List.setIfInBounds_toArray, List.set_cons_zero, List.set_cons_succ, i64_w, i32_w]
             rfl
            refine pure_ (i := 13) (N := some 77) (v := ?_) (a' := ?_) #[true, true, true, true, false, true, true, true, true, true, false, false, false, true] rfl rfl (any_of HT_.out (by kernel_rfl)) (fun _ _ _ h => h) (Or.inl ⟨by rfl, ?_⟩) ?_ ?_
            rotate_left
            ·intro w'
             go_simp
             with_reducible rfl
            rotate_left
            ·simp only [Act.put, List.setIfInBounds_toArray, List.set_cons_zero, List.set_cons_succ, i64_w, i32_w]
             rfl
            refine take_ (i := 4) (N := some 68) (v := ?_) (a' := ?_) #[true, true, true, true, true, true, true, true, true, true, false, false, false, true] rfl rfl (take_ofW HT_.out HW_.out (by kernel_rfl)) (fun _ _ _ h => h) (Or.inl ⟨by rfl, ?_⟩) hHeld ?_ ?_
            rotate_left
            ·rintro w' ⟨s0, s1, s2, s3⟩
             go_simp
             with_reducible rfl
            rotate_left
            ·simp only [Act.put, List.setIfInBounds_toArray, List.set_cons_zero, List.set_cons_succ, i64_w, i32_w]
             rfl
            refine take_ (i := 10) (N := some 74) (v := ?_) (a' := ?_) #[true, true, true, true, true, true, true, true, true, true, true, false, false, true] rfl rfl (take_ofW HT_.out HW_.out (by kernel_rfl)) (fun _ _ _ h => h) (Or.inl ⟨by rfl, ?_⟩) hHeld ?_ ?_
            rotate_left
            ·rintro w' ⟨s0, s1, s2, s3⟩
             go_simp
             with_reducible rfl
            rotate_left
            ·simp only [Act.put, List.setIfInBounds_toArray, List.set_cons_zero, List.set_cons_succ, i64_w, i32_w]
             rfl
            refine one_ (i := 11) (N := some 75) #[true, true, true, true, true, true, true, true, true, true, true, true, false, true] rfl rfl (one_of HT_.out (by kernel_rfl)) (by decide) (fun K hK => ?_)
            refine goes_ Try.func23 (by kernel_rfl) rfl #[.agg #[.int .i64 ((rd_T25 x8_2 (ji84)).f0), .int .i64 ((rd_T25 x8_2 (ji84)).f1)], .agg #[.int .i64 ((rd_T25 x8_2 (ji87)).f0), .int .i64 ((rd_T25 x8_2 (ji87)).f1)]] (by rfl) rfl rfl (by (try simp only [List.map_toArray, List.map_cons, List.map_nil]); first | done | (simp only [hji84, hji87]; rfl) | rfl | (simp only [List.length_drop, List.length_take]; rfl)) ?_
            with_reducible refine (impl_CommonNeighbours.calls k2 ((rd_T25 x8_2 (ji84)).f0) ((rd_T25 x8_2 (ji84)).f1) ((rd_T25 x8_2 (ji87)).f0) ((rd_T25 x8_2 (ji87)).f1) t733 _ A90.out).mono ?_
            rintro e w93 ⟨v734, rfl, ho0, hb⟩
            have HS0_ := (hb.cell (World.block_lt_of_cell? _ _ (hHeld.1))).trans (hHeld.1)
            have HS1_ := (hb.cell (World.block_lt_of_cell? _ _ (hHeld.2.1))).trans (hHeld.2.1)
            have HS2_ := (hb.cell (World.block_lt_of_cell? _ _ (hHeld.2.2.1))).trans (hHeld.2.2.1)
            have HS3_ := (hb.cell (World.block_lt_of_cell? _ _ (hHeld.2.2.2))).trans (hHeld.2.2.2)
            refine ⟨_, rfl, ?_⟩
            have n0_ := Az.mk (Kd.R_elder' (by (with_reducible repeat (first | apply Kd.R_alloc | apply Kd.R_drewN | apply Kd.R_drew)); exact HO_8.out) (Kd.R_base ho0) hb)
            have n1_ := Az.mk (Kd.R_elder' (by (with_reducible repeat (first | apply Kd.R_alloc | apply Kd.R_drewN | apply Kd.R_drew)); exact HO_44.out) (Kd.R_base ho0) hb)
            have n2_ := Az.mk (Kd.R_lower (Kd.R_newB (Kd.R_newB (Kd.R_new' (Kd.R_new' ho0 (Kd.R_lt (by (with_reducible repeat (first | apply Kd.R_alloc | apply Kd.R_drewN | apply Kd.R_drew)); exact HO_8.out))) (Kd.R_lt (by (with_reducible repeat (first | apply Kd.R_alloc | apply Kd.R_drewN | apply Kd.R_drew)); exact HO_44.out))) (g := gb705) (o := .cells #[.int .i64 a0_0, .int .i64 a0_1] 25 (0, 0)) (by (with_reducible repeat (first | refine bkN ?_ _ | refine bkD ?_ | refine bkA ?_ _)); exact BK705.out)) (g := gb706) (o := .cells #[.int .i64 x707000_2, .int .i64 x707001_2] 25 (0, 0)) (by (with_reducible repeat (first | refine bkN ?_ _ | refine bkD ?_ | refine bkA ?_ _)); exact BK706.out)) (bwZ (by repeat (first | (with_reducible first | exact HB.out | apply bwA | apply pbN | apply bwD | refine bwS ?_ GE705.out | refine bwS ?_ GE706.out | refine bwS ?_ GE715.out) | exact HB.out))))
            have n3_ := Az.mk (bkB (g := gb705) (o := .cells #[.int .i64 a0_0, .int .i64 a0_1] 25 (0, 0)) (by (with_reducible repeat (first | refine bkN ?_ _ | refine bkD ?_ | refine bkA ?_ _)); exact BK705.out) hb)
            have n4_ := Az.mk (bkB (g := gb706) (o := .cells #[.int .i64 x707000_2, .int .i64 x707001_2] 25 (0, 0)) (by (with_reducible repeat (first | refine bkN ?_ _ | refine bkD ?_ | refine bkA ?_ _)); exact BK706.out) hb)
            have n5_ := Az.mk (bkB (g := gb715) (o := .cells #[.int .i64 t710, .int .i64 t711, .int .i64 t712, .int .i64 t713] 46 (0, 0)) (by (with_reducible repeat (first | refine bkN ?_ _ | refine bkD ?_ | refine bkA ?_ _)); exact BK715.out) hb)
            have n6_ := Az.mk (bwT (by repeat (first | (with_reducible first | exact HB.out | apply bwA | apply pbN | apply bwD | refine bwS ?_ GE705.out | refine bwS ?_ GE706.out | refine bwS ?_ GE715.out) | exact HB.out)) hb)
            clear HO_8
            clear HO_44
            clear BK705
            clear BK706
            clear BK715
            clear HB
            have HO_8 := n0_
            have HO_44 := n1_
            have HO735 := n2_
            have BK705 := n3_
            have BK706 := n4_
            have BK715 := n5_
            have HB := n6_
            clear n0_ n1_ n2_ n3_ n4_ n5_ n6_
            (try clear hb)
            (try clear hb2)
            (try clear hk)
            (try clear hi)
            (try clear ho0)
            obtain ⟨Ao94, co94, eo94⟩ := Kd.R_slice HO735.out
            (first | subst eo94 | (injection eo94 with f1_ f2_ f3_; have f4_ := f1_.symm; have f5_ := f3_.symm; clear f1_ f2_ f3_; subst f4_; subst f5_))
            refine hK.out _ _ ⟨HS0_, HS1_, HS2_, HS3_⟩ (fun hHeld => ?_)
            clear hK K
            refine norm_ (a' := ?_) ?_ ?_
            rotate_left
            ·show Act.put _ (some 75) _ = _
             simp only [Act.put, List.setIfInBounds_toArray, List.set_cons_zero, List.set_cons_succ, i64_w, i32_w]
             rfl
            refine pure_ (i := 12) (N := some 76) (v := ?_) (a' := ?_) #[true, true, true, true, true, true, true, true, true, true, true, true, true, true] rfl rfl (any_of HT_.out (by kernel_rfl)) (fun _ _ _ h => h) (Or.inl ⟨by rfl, ?_⟩) ?_ ?_
            rotate_left
            ·intro w'
             go_simp
             with_reducible rfl
            rotate_left
            ·simp only [Act.put, List.setIfInBounds_toArray, List.set_cons_zero, List.set_cons_succ, i64_w, i32_w]
             rfl
            refine done_ (done_of HT_.out (by kernel_rfl)) ?_
            try go_wp2
            go_loopg [77] k2 (fun kq v77 w' => ∃ (x77_3 : Int) (x707000_3 : Int) (x707001_3 : Int), v77 = .int .i64 x77_3 ∧ Az (impl_FlipSlope.l1 kq a1 x8_2 t733 (t733.length : Int) x77_3 = some (r1, r2, r3)) ∧ Az (kq ≤ k2) ∧ Az (Kd.R k25 25 w' w.heap.size (fun k_ => some k_ ≠ ((.slice Ao94 t733.length co94) : Value).ownBlock ∧ k_ ≠ gb705 ∧ k_ ≠ gb706) (.slice (some ad731) x8_2.length co92) x8_2) ∧ Az (Kd.R k25 25 w' w.heap.size (fun k_ => some k_ ≠ ((.slice (some ad731) x8_2.length co92) : Value).ownBlock ∧ k_ ≠ gb705 ∧ k_ ≠ gb706) (.slice Ao94 t733.length co94) t733) ∧ Az (w'.heap[gb705]? = some (.cells #[.int .i64 a0_0, .int .i64 a0_1] 25 (0, 0))) ∧ Az (w'.heap[gb706]? = some (.cells #[.int .i64 x707000_3, .int .i64 x707001_3] 25 (0, 0))) ∧ Az (w'.heap[gb715]? = some (.cells #[.int .i64 t710, .int .i64 t711, .int .i64 t712, .int .i64 t713] 46 (0, 0))) ∧ Az (Below w.heap.size w w'))
            case atStart => exact ⟨(0), (x707000_2), (x707001_2), (by first | rfl | (simp; done) | (simp [*]; done)), H', ⟨Nat.le_refl _⟩, ⟨by (with_reducible repeat (first | apply Kd.R_alloc | apply Kd.R_drewN | apply Kd.R_drew)); exact Kd.R_mono HO_8.out (fun _ hk => ⟨hk.2, ⟨hk.1.2.1, hk.1.2.2⟩⟩)⟩, ⟨by (with_reducible repeat (first | apply Kd.R_alloc | apply Kd.R_drewN | apply Kd.R_drew)); exact Kd.R_mono HO735.out (fun _ hk => ⟨hk.1.1.1.2, ⟨hk.1.2, hk.2⟩⟩)⟩, ⟨by (with_reducible repeat (first | refine bkN ?_ _ | refine bkD ?_ | refine bkA ?_ _)); exact BK705.out⟩, ⟨by (with_reducible repeat (first | refine bkN ?_ _ | refine bkD ?_ | refine bkA ?_ _)); exact BK706.out⟩, ⟨by (with_reducible repeat (first | refine bkN ?_ _ | refine bkD ?_ | refine bkA ?_ _)); exact BK715.out⟩, ⟨by repeat (first | (with_reducible first | exact HB.out | apply bwA | apply pbN | apply bwD | refine bwS ?_ GE705.out | refine bwS ?_ GE706.out | refine bwS ?_ GE715.out) | exact HB.out)⟩⟩
            case round =>
             clear H'
             try clear c1
             try clear c2
             try clear p2
             try clear c3
             try clear c4
             try clear c5
             try clear c6
             try clear p6
             try clear c7
             try clear p7
             try clear q7
             try clear hx7
             try clear c8
             try clear c8b0
             try clear c9
             try clear c13
             try clear c13b0
             try clear c14
             try clear c19
             try clear c23
             try clear c26
             try clear c27
             try clear c31
             try clear c33
             try clear c36
             try clear c38
             try clear c39
             try clear c45
             try clear c45b0
             try clear c46
             try clear c46b0
             try clear c47
             try clear c47b0
             try clear c49
             try clear c50
             try clear c52
             try clear c53
             try clear c54
             try clear c56
             try clear c57
             try clear c61
             try clear c62
             try clear c63
             try clear c64
             try clear p64
             try clear c68
             try clear c69
             try clear c70
             try clear c71
             try clear c72
             try clear p72
             try clear q72
             try clear hx72
             try clear c73
             try clear p73
             try clear q73
             try clear hx73
             try clear c77
             try clear c78
             try clear c79
             try clear c80
             try clear c82
             try clear c85
             try clear c85b0
             try clear c86
             try clear c86b0
             try clear c88
             try clear c88b0
             try clear c89
             try clear c89b0
             try clear hcz10_0
             try clear hcz10_1
             try clear hcz12_0
             try clear hcz12_1
             try clear hcz15_0
             try clear hcz15_1
             try clear hcz17_0
             try clear hcz17_1
             try clear hcz20_0
             try clear hcz20_1
             try clear hcz22_0
             try clear hcz22_1
             try clear hcz24_0
             try clear hcz24_1
             try clear hcz28_0
             try clear hcz28_1
             try clear hcz34_0
             try clear hcz34_1
             try clear hcz40_0
             try clear hcz40_1
             try clear hcz40_2
             try clear hcz40_3
             try clear hcz55_0
             try clear hcz55_1
             try clear hcz58_0
             try clear hcz58_1
             try clear hcz58_2
             try clear hcz58_3
             try clear hcz65_0
             try clear hcz65_1
             try clear hcz71_0
             try clear hcz71_1
             try clear hcz74_0
             try clear hcz74_1
             try clear hcz74_2
             try clear hcz74_3
             try clear hcz81_0
             try clear hcz81_1
             try clear hcz83_0
             try clear hcz83_1
             try clear hfz10_0
             try clear hfz10_1
             try clear hfz12_0
             try clear hfz12_1
             try clear hfz15_0
             try clear hfz15_1
             try clear hfz17_0
             try clear hfz17_1
             try clear hfz20_0
             try clear hfz20_1
             try clear hfz22_0
             try clear hfz22_1
             try clear hfz24_0
             try clear hfz24_1
             try clear hfz28_0
             try clear hfz28_1
             try clear hfz34_0
             try clear hfz34_1
             try clear hfz40_0
             try clear hfz40_1
             try clear hfz40_2
             try clear hfz40_3
             try clear hfz55_0
             try clear hfz55_1
             try clear hfz58_0
             try clear hfz58_1
             try clear hfz58_2
             try clear hfz58_3
             try clear hfz65_0
             try clear hfz65_1
             try clear hfz71_0
             try clear hfz71_1
             try clear hfz74_0
             try clear hfz74_1
             try clear hfz74_2
             try clear hfz74_3
             try clear hfz81_0
             try clear hfz81_1
             try clear hfz83_0
             try clear hfz83_1
             try clear hx722_0
             try clear hx722_1
             try clear hx731_0
             try clear hx731_1
             try clear hx732_0
             try clear hx732_1
             try clear p2
             try clear p722
             try clear p731
             try clear p732
             try clear q722
             try clear q731
             try clear q732
             obtain ⟨x77_3, x707000_3, x707001_3, rfl, HA, HK3, HO_8, HO_75, BK705, BK706, BK715, HB⟩ := hrel
             cases gk with
             | zero => exact absurd HA.out (by simp [impl_FlipSlope.l1])
             | succ k3 =>
              have H := HA.out
              clear HA
              simp only [impl_FlipSlope.l1] at H
              by_cases c95 : x77_3 < (t733.length : Int)
              ·rw [if_pos c95] at H
               have c95b0 : decide (x77_3 < (t733.length : Int)) = true := decide_eq_true c95
               clear c95
               by_cases c96 : 0 ≤ x77_3
               ·rw [if_pos c96] at H
                have c96b0 : decide (0 ≤ x77_3) = true := decide_eq_true c96
                clear c96
                by_cases c97 : x77_3 < (t733.length : Int)
                ·rw [if_pos c97] at H
                 have c97b0 : decide (x77_3 < (t733.length : Int)) = true := decide_eq_true c97
                 clear c97
                 obtain ⟨ji98, hji98⟩ : ∃ j_ : Int, (wrap64 (a1 - 1)) = j_ := ⟨_, rfl⟩
                 replace H : (if 0 ≤ (ji98) then (if (ji98) < (x8_2.length : Int) then (if (!(((rd_T25 t733 x77_3).f0) == ((rd_T25 x8_2 (ji98)).f0)) || (!(((rd_T25 t733 x77_3).f1) == ((rd_T25 x8_2 (ji98)).f1)))) = true then (some ((rd_T25 t733 x77_3).f0, (rd_T25 t733 x77_3).f1, true)) else (impl_FlipSlope.l1 k3 a1 x8_2 t733 (t733.length : Int) (wrap64 (x77_3 + 1)))) else (none)) else (none)) = some (r1, r2, r3) := by first | (rw [hji98] at H; exact H) | (simp only [hji98] at H ⊢; exact H)
                 have hji98w : (IntKind.i64.wrap (a1 - 1)) = ji98 := (i64_w _).trans hji98
                 by_cases c99 : 0 ≤ (ji98)
                 ·rw [if_pos c99] at H
                  have c99b0 : decide (0 ≤ (ji98)) = true := decide_eq_true c99
                  clear c99
                  by_cases c100 : (ji98) < (x8_2.length : Int)
                  ·rw [if_pos c100] at H
                   have c100b0 : decide ((ji98) < (x8_2.length : Int)) = true := decide_eq_true c100
                   clear c100
                   by_cases c101 : (!(((rd_T25 t733 x77_3).f0) == ((rd_T25 x8_2 (ji98)).f0)) || (!(((rd_T25 t733 x77_3).f1) == ((rd_T25 x8_2 (ji98)).f1)))) = true
                   ·rw [if_pos c101] at H
                    have c101b0 : (!(((rd_T25 t733 x77_3).f0) == ((rd_T25 x8_2 (ji98)).f0)) || (!(((rd_T25 t733 x77_3).f1) == ((rd_T25 x8_2 (ji98)).f1)))) = true := c101
                    clear c101
                    simp only [Option.some.injEq, Prod.mk.injEq] at H
                    obtain ⟨rfl, rfl, rfl⟩ := H
                    have p736 : 0 ≤ (x77_3 : Int) := of_decide_eq_true (by first | (with_reducible assumption) | assumption)
                    have q736 : x77_3 < (t733.length : Int) := of_decide_eq_true (by first | (with_reducible assumption) | assumption)
                    obtain ⟨ad736, e736, hx736_0, hx736_1⟩ := at_T25 (Kd.R_reads' HO_75.out).2.2 x77_3 p736 q736
                    cases e736
                    replace p736 := eq_true p736
                    replace q736 := eq_true q736
                    try go_wp2_with (first | ((with_reducible refine gtD (N := 14) rfl ?_); refine bxE ?hg (N := 14) ?hd (cs := #[.int .i64 0, .int .i64 0]) (t := 25) ?hr ?_; (case hd => rfl); (case hg => rfl); (case hr => first | (go_simp; done) | (go_simp; rfl)); intro gb737 hg w102 hbox hb; have n0_ := Az.mk (Kd.R_below (Kd.R_elderB (by (with_reducible repeat (first | apply Kd.R_alloc | apply Kd.R_drewN | apply Kd.R_drew)); exact HO_8.out) gb737 (Nat.le_of_eq hg.symm)) hb); have n1_ := Az.mk (Kd.R_below (Kd.R_elderB (by (with_reducible repeat (first | apply Kd.R_alloc | apply Kd.R_drewN | apply Kd.R_drew)); exact HO_75.out) gb737 (Nat.le_of_eq hg.symm)) hb); have n2_ := Az.mk (bkB (g := gb705) (o := .cells #[.int .i64 a0_0, .int .i64 a0_1] 25 (0, 0)) (by (with_reducible repeat (first | refine bkN ?_ _ | refine bkD ?_ | refine bkA ?_ _)); exact BK705.out) hb); have n3_ := Az.mk (bkB (g := gb706) (o := .cells #[.int .i64 x707000_3, .int .i64 x707001_3] 25 (0, 0)) (by (with_reducible repeat (first | refine bkN ?_ _ | refine bkD ?_ | refine bkA ?_ _)); exact BK706.out) hb); have n4_ := Az.mk (bkB (g := gb715) (o := .cells #[.int .i64 t710, .int .i64 t711, .int .i64 t712, .int .i64 t713] 46 (0, 0)) (by (with_reducible repeat (first | refine bkN ?_ _ | refine bkD ?_ | refine bkA ?_ _)); exact BK715.out) hb); have n5_ := Az.mk (bwT (by repeat (first | (with_reducible first | exact HB.out | apply bwA | apply pbN | apply bwD | refine bwS ?_ GE705.out | refine bwS ?_ GE706.out | refine bwS ?_ GE715.out) | exact HB.out)) hb); have n6_ := Az.mk (hbox); have n7_ := Az.mk ((by rw [hg]; exact (bwZ (by repeat (first | (with_reducible first | exact HB.out | apply bwA | apply pbN | apply bwD | refine bwS ?_ GE705.out | refine bwS ?_ GE706.out | refine bwS ?_ GE715.out) | exact HB.out))) : w.heap.size ≤ gb737)); have n8_ := Az.mk ((by rw [hg]; exact (bwZ (by repeat (first | (with_reducible first | exact HB.out | apply bwA | apply pbN | apply bwD | refine bwS ?_ GE705.out | refine bwS ?_ GE706.out | refine bwS ?_ GE715.out) | exact HB.out))) : w.heap.size ≤ gb737)); have n9_ := Az.mk ((by rw [hg]; exact Nat.ne_of_lt (blk_lt (g := gb705) (o := .cells #[.int .i64 a0_0, .int .i64 a0_1] 25 (0, 0)) (by (with_reducible repeat (first | refine bkN ?_ _ | refine bkD ?_ | refine bkA ?_ _)); exact BK705.out)) : gb705 ≠ gb737)); have n10_ := Az.mk ((by rw [hg]; exact Nat.ne_of_gt (blk_lt (g := gb705) (o := .cells #[.int .i64 a0_0, .int .i64 a0_1] 25 (0, 0)) (by (with_reducible repeat (first | refine bkN ?_ _ | refine bkD ?_ | refine bkA ?_ _)); exact BK705.out)) : gb737 ≠ gb705)); have n11_ := Az.mk ((by rw [hg]; exact Nat.ne_of_lt (blk_lt (g := gb706) (o := .cells #[.int .i64 x707000_3, .int .i64 x707001_3] 25 (0, 0)) (by (with_reducible repeat (first | refine bkN ?_ _ | refine bkD ?_ | refine bkA ?_ _)); exact BK706.out)) : gb706 ≠ gb737)); have n12_ := Az.mk ((by rw [hg]; exact Nat.ne_of_gt (blk_lt (g := gb706) (o := .cells #[.int .i64 x707000_3, .int .i64 x707001_3] 25 (0, 0)) (by (with_reducible repeat (first | refine bkN ?_ _ | refine bkD ?_ | refine bkA ?_ _)); exact BK706.out)) : gb737 ≠ gb706)); have n13_ := Az.mk ((by rw [hg]; exact Nat.ne_of_lt (blk_lt (g := gb715) (o := .cells #[.int .i64 t710, .int .i64 t711, .int .i64 t712, .int .i64 t713] 46 (0, 0)) (by (with_reducible repeat (first | refine bkN ?_ _ | refine bkD ?_ | refine bkA ?_ _)); exact BK715.out)) : gb715 ≠ gb737)); have n14_ := Az.mk ((by rw [hg]; exact Nat.ne_of_gt (blk_lt (g := gb715) (o := .cells #[.int .i64 t710, .int .i64 t711, .int .i64 t712, .int .i64 t713] 46 (0, 0)) (by (with_reducible repeat (first | refine bkN ?_ _ | refine bkD ?_ | refine bkA ?_ _)); exact BK715.out)) : gb737 ≠ gb715)); clear HO_8; clear HO_75; clear BK705; clear BK706; clear BK715; clear HB; have HO_8 := n0_; have HO_75 := n1_; have BK705 := n2_; have BK706 := n3_; have BK715 := n4_; have HB := n5_; have BK737 := n6_; have GW737 := n7_; have GE737 := n8_; have NB705_737 := n9_; have NB737_705 := n10_; have NB706_737 := n11_; have NB737_706 := n12_; have NB715_737 := n13_; have NB737_715 := n14_; clear n0_ n1_ n2_ n3_ n4_ n5_ n6_ n7_ n8_ n9_ n10_ n11_ n12_ n13_ n14_; clear hb hbox hg; have hnb103 := NB737_705.out; have hnc103 := NB705_737.out; have hnb104 := NB737_706.out; have hnc104 := NB706_737.out; have hnb105 := NB737_715.out; have hnc105 := NB715_737.out; have hcz106_0 : w102.cell? ⟨gb737, 0, none⟩ = some (.int .i64 0) := (bkC BK737.out 0).trans rfl; have hcz106_1 : w102.cell? ⟨gb737, 1, none⟩ = some (.int .i64 0) := (bkC BK737.out 1).trans rfl; have hfz106_0 := bkF BK737.out 0; have hfz106_1 := bkF BK737.out 1))
                    have n0_ : Az (Kd.R k25 25 ((w102.setCell ⟨gb737, 0, none⟩ (.int .i64 ((rd_T25 t733 x77_3).f0))).setCell ⟨gb737, 1, none⟩ (.int .i64 ((rd_T25 t733 x77_3).f1))) w.heap.size (fun k_ => some k_ ≠ (.slice (some ad736) t733.length co94 : Value).ownBlock ∧ k_ ≠ gb705 ∧ k_ ≠ gb706 ∧ k_ ≠ gb737) (.slice (some ad731) x8_2.length co92) x8_2) := ⟨by (with_reducible repeat (first | apply Kd.R_alloc | apply Kd.R_drewN | apply Kd.R_drew)); exact Kd.R_mono (Kd.R_far (p := ⟨gb737, 1, none⟩) (Kd.R_far (p := ⟨gb737, 0, none⟩) (Kd.R_mono HO_8.out (fun k_ hk => (⟨hk, hk.2⟩ : _ ∧ k_ ≠ gb737))) (fun _ hk => hk.2) (.int .i64 ((rd_T25 t733 x77_3).f0))) (fun _ hk => hk.2) (.int .i64 ((rd_T25 t733 x77_3).f1))) (fun _ hk => ⟨hk.1.1.1, ⟨hk.1.1.2.1, ⟨hk.1.1.2.2, hk.1.2⟩⟩⟩)⟩
                    have n1_ : Az (Kd.R k25 25 ((w102.setCell ⟨gb737, 0, none⟩ (.int .i64 ((rd_T25 t733 x77_3).f0))).setCell ⟨gb737, 1, none⟩ (.int .i64 ((rd_T25 t733 x77_3).f1))) w.heap.size (fun k_ => some k_ ≠ (.slice (some ad731) x8_2.length co92 : Value).ownBlock ∧ k_ ≠ gb705 ∧ k_ ≠ gb706 ∧ k_ ≠ gb737) (.slice (some ad736) t733.length co94) t733) := ⟨by (with_reducible repeat (first | apply Kd.R_alloc | apply Kd.R_drewN | apply Kd.R_drew)); exact Kd.R_mono (Kd.R_far (p := ⟨gb737, 1, none⟩) (Kd.R_far (p := ⟨gb737, 0, none⟩) (Kd.R_mono HO_75.out (fun k_ hk => (⟨hk, hk.2⟩ : _ ∧ k_ ≠ gb737))) (fun _ hk => hk.2) (.int .i64 ((rd_T25 t733 x77_3).f0))) (fun _ hk => hk.2) (.int .i64 ((rd_T25 t733 x77_3).f1))) (fun _ hk => ⟨hk.1.1.1, ⟨hk.1.1.2.1, ⟨hk.1.1.2.2, hk.1.2⟩⟩⟩)⟩
                    have n2_ : Az (((w102.setCell ⟨gb737, 0, none⟩ (.int .i64 ((rd_T25 t733 x77_3).f0))).setCell ⟨gb737, 1, none⟩ (.int .i64 ((rd_T25 t733 x77_3).f1))).heap[gb705]? = some (.cells #[.int .i64 a0_0, .int .i64 a0_1] 25 (0, 0))) := ⟨by (with_reducible repeat (first | refine bkN ?_ _ | refine bkD ?_ | refine bkA ?_ _)); refine bkf ?_ NB705_737.out _; (with_reducible repeat (first | refine bkN ?_ _ | refine bkD ?_ | refine bkA ?_ _)); refine bkf ?_ NB705_737.out _; (with_reducible repeat (first | refine bkN ?_ _ | refine bkD ?_ | refine bkA ?_ _)); exact BK705.out⟩
                    have n3_ : Az (((w102.setCell ⟨gb737, 0, none⟩ (.int .i64 ((rd_T25 t733 x77_3).f0))).setCell ⟨gb737, 1, none⟩ (.int .i64 ((rd_T25 t733 x77_3).f1))).heap[gb706]? = some (.cells #[.int .i64 x707000_3, .int .i64 x707001_3] 25 (0, 0))) := ⟨by (with_reducible repeat (first | refine bkN ?_ _ | refine bkD ?_ | refine bkA ?_ _)); refine bkf ?_ NB706_737.out _; (with_reducible repeat (first | refine bkN ?_ _ | refine bkD ?_ | refine bkA ?_ _)); refine bkf ?_ NB706_737.out _; (with_reducible repeat (first | refine bkN ?_ _ | refine bkD ?_ | refine bkA ?_ _)); exact BK706.out⟩
                    have n4_ : Az (((w102.setCell ⟨gb737, 0, none⟩ (.int .i64 ((rd_T25 t733 x77_3).f0))).setCell ⟨gb737, 1, none⟩ (.int .i64 ((rd_T25 t733 x77_3).f1))).heap[gb715]? = some (.cells #[.int .i64 t710, .int .i64 t711, .int .i64 t712, .int .i64 t713] 46 (0, 0))) := ⟨by (with_reducible repeat (first | refine bkN ?_ _ | refine bkD ?_ | refine bkA ?_ _)); refine bkf ?_ NB715_737.out _; (with_reducible repeat (first | refine bkN ?_ _ | refine bkD ?_ | refine bkA ?_ _)); refine bkf ?_ NB715_737.out _; (with_reducible repeat (first | refine bkN ?_ _ | refine bkD ?_ | refine bkA ?_ _)); exact BK715.out⟩
                    have n5_ : Az (((w102.setCell ⟨gb737, 0, none⟩ (.int .i64 ((rd_T25 t733 x77_3).f0))).setCell ⟨gb737, 1, none⟩ (.int .i64 ((rd_T25 t733 x77_3).f1))).heap[gb737]? = some (.cells #[.int .i64 ((rd_T25 t733 x77_3).f0), .int .i64 ((rd_T25 t733 x77_3).f1)] 25 (0, 0))) := ⟨by (with_reducible repeat (first | refine bkN ?_ _ | refine bkD ?_ | refine bkA ?_ _)); refine bkp (cs := #[.int .i64 ((rd_T25 t733 x77_3).f0), .int .i64 0]) ?_ 1 _ rfl; (with_reducible repeat (first | refine bkN ?_ _ | refine bkD ?_ | refine bkA ?_ _)); refine bkp (cs := #[.int .i64 0, .int .i64 0]) ?_ 0 _ rfl; (with_reducible repeat (first | refine bkN ?_ _ | refine bkD ?_ | refine bkA ?_ _)); exact BK737.out⟩
                    have n6_ : Az (Below w.heap.size w ((w102.setCell ⟨gb737, 0, none⟩ (.int .i64 ((rd_T25 t733 x77_3).f0))).setCell ⟨gb737, 1, none⟩ (.int .i64 ((rd_T25 t733 x77_3).f1)))) := ⟨by repeat (first | (with_reducible first | exact HB.out | apply bwA | apply pbN | apply bwD | refine bwS ?_ GE705.out | refine bwS ?_ GE706.out | refine bwS ?_ GE715.out | refine bwS ?_ GE737.out) | exact HB.out)⟩
                    (try clear HO_8)
                    (try clear HO_75)
                    (try clear BK705)
                    (try clear BK706)
                    (try clear BK715)
                    (try clear BK737)
                    (try clear HB)
                    generalize ((w102.setCell ⟨gb737, 0, none⟩ (.int .i64 ((rd_T25 t733 x77_3).f0))).setCell ⟨gb737, 1, none⟩ (.int .i64 ((rd_T25 t733 x77_3).f1))) = w107 at n0_ n1_ n2_ n3_ n4_ n5_ n6_ ⊢
                    have HO_8 := n0_
                    have HO_75 := n1_
                    have BK705 := n2_
                    have BK706 := n3_
                    have BK715 := n4_
                    have BK737 := n5_
                    have HB := n6_
                    clear n0_ n1_ n2_ n3_ n4_ n5_ n6_
                    have n0_ := Az.mk (Kd.R_drew HO_8.out)
                    have n1_ := Az.mk (Kd.R_drew HO_75.out)
                    have n2_ := Az.mk (bkD BK705.out)
                    have n3_ := Az.mk (bkD BK706.out)
                    have n4_ := Az.mk (bkD BK715.out)
                    have n5_ := Az.mk (bkD BK737.out)
                    have n6_ := Az.mk (bwD HB.out)
                    clear HO_8
                    clear HO_75
                    clear BK705
                    clear BK706
                    clear BK715
                    clear BK737
                    clear HB
                    have HO_8 := n0_
                    have HO_75 := n1_
                    have BK705 := n2_
                    have BK706 := n3_
                    have BK715 := n4_
                    have BK737 := n5_
                    have HB := n6_
                    clear n0_ n1_ n2_ n3_ n4_ n5_ n6_
                    have p738 : 0 ≤ ((ji98) : Int) := of_decide_eq_true (by first | (with_reducible assumption) | assumption)
                    have q738 : (ji98) < (x8_2.length : Int) := of_decide_eq_true (by first | (with_reducible assumption) | assumption)
                    obtain ⟨ad738, e738, hx738_0, hx738_1⟩ := at_T25 (Kd.R_reads' HO_8.out).2.2 (ji98) p738 q738
                    obtain rfl : ad731 = ad738 := (by injection e738)
                    replace p738 := eq_true p738
                    replace q738 := eq_true q738
                    refine start_ (n := 7) (S := fun w' => w'.cell? ⟨gb737, 0, none⟩ = some (.int .i64 ((rd_T25 t733 x77_3).f0)) ∧ w'.cell? ⟨gb737, 1, none⟩ = some (.int .i64 ((rd_T25 t733 x77_3).f1)) ∧ w'.cell? (ad731.add (((ji98)).toNat * 2)) = some (.int .i64 ((rd_T25 x8_2 (ji98)).f0)) ∧ w'.cell? ⟨(ad731.add (((ji98)).toNat * 2)).block, (ad731.add (((ji98)).toNat * 2)).off + 1, none⟩ = some (.int .i64 ((rd_T25 x8_2 (ji98)).f1))) (ds := []) #[false, false, false, false, false, false, false] (by kernel_rfl) rfl rfl ⟨(bkC BK737.out 0).trans rfl, (bkC BK737.out 1).trans rfl, hx738_0, hx738_1⟩ (fun hHeld => ?_)
                    generalize w107.drew = w108 at HO_8 HO_75 BK705 BK706 BK715 BK737 HB hx738_0 hx738_1 hHeld ⊢
                    refine pure_ (i := 1) (N := some 82) (v := ?_) (a' := ?_) #[false, true, false, false, false, false, false] rfl rfl (by kernel_rfl) (fun _ _ _ h => h) (Or.inl ⟨by rfl, ?_⟩) ?_ ?_
                    rotate_left
                    ·intro w'
                     go_simp
                     with_reducible rfl
                    rotate_left
                    ·simp only [Act.put, List.setIfInBounds_toArray, List.set_cons_zero, List.set_cons_succ, i64_w, i32_w]
                     rfl
                    refine pure_ (i := 2) (N := some 83) (v := ?_) (a' := ?_) #[false, true, true, false, false, false, false] rfl rfl (by kernel_rfl) (fun _ _ _ h => h) (Or.inl ⟨by rfl, ?_⟩) ?_ ?_
                    rotate_left
                    ·intro w'
                     go_simp
                     with_reducible rfl
                    rotate_left
                    ·simp only [Act.put, List.setIfInBounds_toArray, List.set_cons_zero, List.set_cons_succ, i64_w, i32_w]
                     rfl
                    refine pure_ (i := 3) (N := some 84) (v := ?_) (a' := ?_) #[false, true, true, true, false, false, false] rfl rfl (by kernel_rfl) (fun _ _ _ h => h) (Or.inl ⟨by rfl, ?_⟩) ?_ ?_
                    rotate_left
                    ·intro w'
                     go_simp
                     with_reducible rfl
                    rotate_left
                    ·simp only [Act.put, List.setIfInBounds_toArray, List.set_cons_zero, List.set_cons_succ, i64_w, i32_w]
                     rfl
                    refine pure_ (i := 4) (N := some 85) (v := ?_) (a' := ?_) #[false, true, true, true, true, false, false] rfl rfl (by kernel_rfl) (fun _ _ _ h => h) (Or.inl ⟨by rfl, ?_⟩) ?_ ?_
                    rotate_left
                    ·intro w'
                     go_simp
                     with_reducible rfl
                    rotate_left
                    ·simp only [Act.put, List.setIfInBounds_toArray, List.set_cons_zero, List.set_cons_succ, i64_w, i32_w]
                     rfl
                    refine take_ (i := 0) (N := some 81) (v := ?_) (a' := ?_) #[true, true, true, true, true, false, false] rfl rfl (by kernel_rfl) (fun _ _ _ h => h) (Or.inl ⟨by rfl, ?_⟩) hHeld ?_ ?_
                    rotate_left
                    ·rintro w' ⟨s0, s1, s2, s3⟩
                     go_simp
                     with_reducible rfl
                    rotate_left
                    ·simp only [Act.put, List.setIfInBounds_toArray, List.set_cons_zero, List.set_cons_succ, i64_w, i32_w]
                     rfl
                    refine take_ (i := 5) (N := some 86) (v := ?_) (a' := ?_) #[true, true, true, true, true, true, false] rfl rfl (by kernel_rfl) (fun _ _ _ h => h) (Or.inl ⟨by rfl, ?_⟩) hHeld ?_ ?_
                    rotate_left
                    ·rintro w' ⟨s0, s1, s2, s3⟩
                     go_simp
                     with_reducible rfl
                    rotate_left
                    ·simp only [Act.put, List.setIfInBounds_toArray, List.set_cons_zero, List.set_cons_succ, i64_w, i32_w]
                     rfl
                    refine pure_ (i := 6) (N := some 87) (v := ?_) (a' := ?_) #[true, true, true, true, true, true, true] rfl rfl (by kernel_rfl) (fun _ _ _ h => h) (Or.inl ⟨by rfl, ?_⟩) ?_ ?_
                    rotate_left
                    ·intro w'
                     go_simp
                     with_reducible rfl
                    rotate_left
                    ·simp only [Act.put, List.setIfInBounds_toArray, List.set_cons_zero, List.set_cons_succ, i64_w, i32_w]
                     rfl
                    refine done_ (by kernel_rfl) ?_
                    have hcz109_0 : w108.cell? ⟨gb737, 0, none⟩ = some (.int .i64 ((rd_T25 t733 x77_3).f0)) := (bkC BK737.out 0).trans rfl
                    have hcz109_1 : w108.cell? ⟨gb737, 1, none⟩ = some (.int .i64 ((rd_T25 t733 x77_3).f1)) := (bkC BK737.out 1).trans rfl
                    have hfz109_0 := bkF BK737.out 0
                    have hfz109_1 := bkF BK737.out 1
                    have hnb110 := NB706_705.out
                    have hnc110 := NB705_706.out
                    have hnb111 := NB706_715.out
                    have hnc111 := NB715_706.out
                    have hcz112_0 : w108.cell? ⟨gb706, 0, none⟩ = some (.int .i64 x707000_3) := (bkC BK706.out 0).trans rfl
                    have hcz112_1 : w108.cell? ⟨gb706, 1, none⟩ = some (.int .i64 x707001_3) := (bkC BK706.out 1).trans rfl
                    have hfz112_0 := bkF BK706.out 0
                    have hfz112_1 := bkF BK706.out 1
                    try go_wp2
                    refine bodyPost_ret (results_ct rfl _ _ gb706 25 #[.int .i64 ((rd_T25 t733 x77_3).f0), .int .i64 ((rd_T25 t733 x77_3).f1)] (0, 0) _ rfl (by (with_reducible repeat (first | refine bkN ?_ _ | refine bkD ?_ | refine bkA ?_ _)); refine bkp (cs := #[.int .i64 ((rd_T25 t733 x77_3).f0), .int .i64 x707001_3]) ?_ 1 _ rfl; (with_reducible repeat (first | refine bkN ?_ _ | refine bkD ?_ | refine bkA ?_ _)); refine bkp (cs := #[.int .i64 x707000_3, .int .i64 x707001_3]) ?_ 0 _ rfl; (with_reducible repeat (first | refine bkN ?_ _ | refine bkD ?_ | refine bkA ?_ _)); exact BK706.out) Try.underlying25 rfl (by kernel_rfl)) rfl ?_
                    exact ⟨by first | rfl | (simp [eWn, eWs] <;> rfl) | (simp only [← hji84, ← hji87, ← hji98]; first | rfl | (simp [eWn, eWs] <;> rfl)) | (simp [*, eWn, eWs] <;> rfl), by repeat (first | (with_reducible first | exact HB.out | apply bwA | apply pbN | apply bwD | refine bwS ?_ GE705.out | refine bwS ?_ GE706.out | refine bwS ?_ GE715.out | refine bwS ?_ GE737.out) | exact HB.out)⟩
                   ·rw [if_neg c101] at H
                    have c101b0 : (!(((rd_T25 t733 x77_3).f0) == ((rd_T25 x8_2 (ji98)).f0)) || (!(((rd_T25 t733 x77_3).f1) == ((rd_T25 x8_2 (ji98)).f1)))) = false := by simpa using c101
                    clear c101
                    have H' := Az.mk H
                    clear H
                    have p736 : 0 ≤ (x77_3 : Int) := of_decide_eq_true (by first | (with_reducible assumption) | assumption)
                    have q736 : x77_3 < (t733.length : Int) := of_decide_eq_true (by first | (with_reducible assumption) | assumption)
                    obtain ⟨ad736, e736, hx736_0, hx736_1⟩ := at_T25 (Kd.R_reads' HO_75.out).2.2 x77_3 p736 q736
                    cases e736
                    replace p736 := eq_true p736
                    replace q736 := eq_true q736
                    try go_wp2_with (first | ((with_reducible refine gtD (N := 14) rfl ?_); refine bxE ?hg (N := 14) ?hd (cs := #[.int .i64 0, .int .i64 0]) (t := 25) ?hr ?_; (case hd => rfl); (case hg => rfl); (case hr => first | (go_simp; done) | (go_simp; rfl)); intro gb737 hg w113 hbox hb; have n0_ := Az.mk (Kd.R_below (Kd.R_elderB (by (with_reducible repeat (first | apply Kd.R_alloc | apply Kd.R_drewN | apply Kd.R_drew)); exact HO_8.out) gb737 (Nat.le_of_eq hg.symm)) hb); have n1_ := Az.mk (Kd.R_below (Kd.R_elderB (by (with_reducible repeat (first | apply Kd.R_alloc | apply Kd.R_drewN | apply Kd.R_drew)); exact HO_75.out) gb737 (Nat.le_of_eq hg.symm)) hb); have n2_ := Az.mk (bkB (g := gb705) (o := .cells #[.int .i64 a0_0, .int .i64 a0_1] 25 (0, 0)) (by (with_reducible repeat (first | refine bkN ?_ _ | refine bkD ?_ | refine bkA ?_ _)); exact BK705.out) hb); have n3_ := Az.mk (bkB (g := gb706) (o := .cells #[.int .i64 x707000_3, .int .i64 x707001_3] 25 (0, 0)) (by (with_reducible repeat (first | refine bkN ?_ _ | refine bkD ?_ | refine bkA ?_ _)); exact BK706.out) hb); have n4_ := Az.mk (bkB (g := gb715) (o := .cells #[.int .i64 t710, .int .i64 t711, .int .i64 t712, .int .i64 t713] 46 (0, 0)) (by (with_reducible repeat (first | refine bkN ?_ _ | refine bkD ?_ | refine bkA ?_ _)); exact BK715.out) hb); have n5_ := Az.mk (bwT (by repeat (first | (with_reducible first | exact HB.out | apply bwA | apply pbN | apply bwD | refine bwS ?_ GE705.out | refine bwS ?_ GE706.out | refine bwS ?_ GE715.out) | exact HB.out)) hb); have n6_ := Az.mk (hbox); have n7_ := Az.mk ((by rw [hg]; exact (bwZ (by repeat (first | (with_reducible first | exact HB.out | apply bwA | apply pbN | apply bwD | refine bwS ?_ GE705.out | refine bwS ?_ GE706.out | refine bwS ?_ GE715.out) | exact HB.out))) : w.heap.size ≤ gb737)); have n8_ := Az.mk ((by rw [hg]; exact (bwZ (by repeat (first | (with_reducible first | exact HB.out | apply bwA | apply pbN | apply bwD | refine bwS ?_ GE705.out | refine bwS ?_ GE706.out | refine bwS ?_ GE715.out) | exact HB.out))) : w.heap.size ≤ gb737)); have n9_ := Az.mk ((by rw [hg]; exact Nat.ne_of_lt (blk_lt (g := gb705) (o := .cells #[.int .i64 a0_0, .int .i64 a0_1] 25 (0, 0)) (by (with_reducible repeat (first | refine bkN ?_ _ | refine bkD ?_ | refine bkA ?_ _)); exact BK705.out)) : gb705 ≠ gb737)); have n10_ := Az.mk ((by rw [hg]; exact Nat.ne_of_gt (blk_lt (g := gb705) (o := .cells #[.int .i64 a0_0, .int .i64 a0_1] 25 (0, 0)) (by (with_reducible repeat (first | refine bkN ?_ _ | refine bkD ?_ | refine bkA ?_ _)); exact BK705.out)) : gb737 ≠ gb705)); have n11_ := Az.mk ((by rw [hg]; exact Nat.ne_of_lt (blk_lt (g := gb706) (o := .cells #[.int .i64 x707000_3, .int .i64 x707001_3] 25 (0, 0)) (by (with_reducible repeat (first | refine bkN ?_ _ | refine bkD ?_ | refine bkA ?_ _)); exact BK706.out)) : gb706 ≠ gb737)); have n12_ := Az.mk ((by rw [hg]; exact Nat.ne_of_gt (blk_lt (g := gb706) (o := .cells #[.int .i64 x707000_3, .int .i64 x707001_3] 25 (0, 0)) (by (with_reducible repeat (first | refine bkN ?_ _ | refine bkD ?_ | refine bkA ?_ _)); exact BK706.out)) : gb737 ≠ gb706)); have n13_ := Az.mk ((by rw [hg]; exact Nat.ne_of_lt (blk_lt (g := gb715) (o := .cells #[.int .i64 t710, .int .i64 t711, .int .i64 t712, .int .i64 t713] 46 (0, 0)) (by (with_reducible repeat (first | refine bkN ?_ _ | refine bkD ?_ | refine bkA ?_ _)); exact BK715.out)) : gb715 ≠ gb737)); have n14_ := Az.mk ((by rw [hg]; exact Nat.ne_of_gt (blk_lt (g := gb715) (o := .cells #[.int .i64 t710, .int .i64 t711, .int .i64 t712, .int .i64 t713] 46 (0, 0)) (by (with_reducible repeat (first | refine bkN ?_ _ | refine bkD ?_ | refine bkA ?_ _)); exact BK715.out)) : gb737 ≠ gb715)); clear HO_8; clear HO_75; clear BK705; clear BK706; clear BK715; clear HB; have HO_8 := n0_; have HO_75 := n1_; have BK705 := n2_; have BK706 := n3_; have BK715 := n4_; have HB := n5_; have BK737 := n6_; have GW737 := n7_; have GE737 := n8_; have NB705_737 := n9_; have NB737_705 := n10_; have NB706_737 := n11_; have NB737_706 := n12_; have NB715_737 := n13_; have NB737_715 := n14_; clear n0_ n1_ n2_ n3_ n4_ n5_ n6_ n7_ n8_ n9_ n10_ n11_ n12_ n13_ n14_; clear hb hbox hg; have hnb114 := NB737_705.out; have hnc114 := NB705_737.out; have hnb115 := NB737_706.out; have hnc115 := NB706_737.out; have hnb116 := NB737_715.out; have hnc116 := NB715_737.out; have hcz117_0 : w113.cell? ⟨gb737, 0, none⟩ = some (.int .i64 0) := (bkC BK737.out 0).trans rfl; have hcz117_1 : w113.cell? ⟨gb737, 1, none⟩ = some (.int .i64 0) := (bkC BK737.out 1).trans rfl; have hfz117_0 := bkF BK737.out 0; have hfz117_1 := bkF BK737.out 1))
                    have n0_ : Az (Kd.R k25 25 ((w113.setCell ⟨gb737, 0, none⟩ (.int .i64 ((rd_T25 t733 x77_3).f0))).setCell ⟨gb737, 1, none⟩ (.int .i64 ((rd_T25 t733 x77_3).f1))) w.heap.size (fun k_ => some k_ ≠ (.slice (some ad736) t733.length co94 : Value).ownBlock ∧ k_ ≠ gb705 ∧ k_ ≠ gb706 ∧ k_ ≠ gb737) (.slice (some ad731) x8_2.length co92) x8_2) := ⟨by (with_reducible repeat (first | apply Kd.R_alloc | apply Kd.R_drewN | apply Kd.R_drew)); exact Kd.R_mono (Kd.R_far (p := ⟨gb737, 1, none⟩) (Kd.R_far (p := ⟨gb737, 0, none⟩) (Kd.R_mono HO_8.out (fun k_ hk => (⟨hk, hk.2⟩ : _ ∧ k_ ≠ gb737))) (fun _ hk => hk.2) (.int .i64 ((rd_T25 t733 x77_3).f0))) (fun _ hk => hk.2) (.int .i64 ((rd_T25 t733 x77_3).f1))) (fun _ hk => ⟨hk.1.1.1, ⟨hk.1.1.2.1, ⟨hk.1.1.2.2, hk.1.2⟩⟩⟩)⟩
                    have n1_ : Az (Kd.R k25 25 ((w113.setCell ⟨gb737, 0, none⟩ (.int .i64 ((rd_T25 t733 x77_3).f0))).setCell ⟨gb737, 1, none⟩ (.int .i64 ((rd_T25 t733 x77_3).f1))) w.heap.size (fun k_ => some k_ ≠ (.slice (some ad731) x8_2.length co92 : Value).ownBlock ∧ k_ ≠ gb705 ∧ k_ ≠ gb706 ∧ k_ ≠ gb737) (.slice (some ad736) t733.length co94) t733) := ⟨by (with_reducible repeat (first | apply Kd.R_alloc | apply Kd.R_drewN | apply Kd.R_drew)); exact Kd.R_mono (Kd.R_far (p := ⟨gb737, 1, none⟩) (Kd.R_far (p := ⟨gb737, 0, none⟩) (Kd.R_mono HO_75.out (fun k_ hk => (⟨hk, hk.2⟩ : _ ∧ k_ ≠ gb737))) (fun _ hk => hk.2) (.int .i64 ((rd_T25 t733 x77_3).f0))) (fun _ hk => hk.2) (.int .i64 ((rd_T25 t733 x77_3).f1))) (fun _ hk => ⟨hk.1.1.1, ⟨hk.1.1.2.1, ⟨hk.1.1.2.2, hk.1.2⟩⟩⟩)⟩
                    have n2_ : Az (((w113.setCell ⟨gb737, 0, none⟩ (.int .i64 ((rd_T25 t733 x77_3).f0))).setCell ⟨gb737, 1, none⟩ (.int .i64 ((rd_T25 t733 x77_3).f1))).heap[gb705]? = some (.cells #[.int .i64 a0_0, .int .i64 a0_1] 25 (0, 0))) := ⟨by (with_reducible repeat (first | refine bkN ?_ _ | refine bkD ?_ | refine bkA ?_ _)); refine bkf ?_ NB705_737.out _; (with_reducible repeat (first | refine bkN ?_ _ | refine bkD ?_ | refine bkA ?_ _)); refine bkf ?_ NB705_737.out _; (with_reducible repeat (first | refine bkN ?_ _ | refine bkD ?_ | refine bkA ?_ _)); exact BK705.out⟩
                    have n3_ : Az (((w113.setCell ⟨gb737, 0, none⟩ (.int .i64 ((rd_T25 t733 x77_3).f0))).setCell ⟨gb737, 1, none⟩ (.int .i64 ((rd_T25 t733 x77_3).f1))).heap[gb706]? = some (.cells #[.int .i64 x707000_3, .int .i64 x707001_3] 25 (0, 0))) := ⟨by (with_reducible repeat (first | refine bkN ?_ _ | refine bkD ?_ | refine bkA ?_ _)); refine bkf ?_ NB706_737.out _; (with_reducible repeat (first | refine bkN ?_ _ | refine bkD ?_ | refine bkA ?_ _)); refine bkf ?_ NB706_737.out _; (with_reducible repeat (first | refine bkN ?_ _ | refine bkD ?_ | refine bkA ?_ _)); exact BK706.out⟩
                    have n4_ : Az (((w113.setCell ⟨gb737, 0, none⟩ (.int .i64 ((rd_T25 t733 x77_3).f0))).setCell ⟨gb737, 1, none⟩ (.int .i64 ((rd_T25 t733 x77_3).f1))).heap[gb715]? = some (.cells #[.int .i64 t710, .int .i64 t711, .int .i64 t712, .int .i64 t713] 46 (0, 0))) := ⟨by (with_reducible repeat (first | refine bkN ?_ _ | refine bkD ?_ | refine bkA ?_ _)); refine bkf ?_ NB715_737.out _; (with_reducible repeat (first | refine bkN ?_ _ | refine bkD ?_ | refine bkA ?_ _)); refine bkf ?_ NB715_737.out _; (with_reducible repeat (first | refine bkN ?_ _ | refine bkD ?_ | refine bkA ?_ _)); exact BK715.out⟩
                    have n5_ : Az (((w113.setCell ⟨gb737, 0, none⟩ (.int .i64 ((rd_T25 t733 x77_3).f0))).setCell ⟨gb737, 1, none⟩ (.int .i64 ((rd_T25 t733 x77_3).f1))).heap[gb737]? = some (.cells #[.int .i64 ((rd_T25 t733 x77_3).f0), .int .i64 ((rd_T25 t733 x77_3).f1)] 25 (0, 0))) := ⟨by (with_reducible repeat (first | refine bkN ?_ _ | refine bkD ?_ | refine bkA ?_ _)); refine bkp (cs := #[.int .i64 ((rd_T25 t733 x77_3).f0), .int .i64 0]) ?_ 1 _ rfl; (with_reducible repeat (first | refine bkN ?_ _ | refine bkD ?_ | refine bkA ?_ _)); refine bkp (cs := #[.int .i64 0, .int .i64 0]) ?_ 0 _ rfl; (with_reducible repeat (first | refine bkN ?_ _ | refine bkD ?_ | refine bkA ?_ _)); exact BK737.out⟩
                    have n6_ : Az (Below w.heap.size w ((w113.setCell ⟨gb737, 0, none⟩ (.int .i64 ((rd_T25 t733 x77_3).f0))).setCell ⟨gb737, 1, none⟩ (.int .i64 ((rd_T25 t733 x77_3).f1)))) := ⟨by repeat (first | (with_reducible first | exact HB.out | apply bwA | apply pbN | apply bwD | refine bwS ?_ GE705.out | refine bwS ?_ GE706.out | refine bwS ?_ GE715.out | refine bwS ?_ GE737.out) | exact HB.out)⟩
                    (try clear HO_8)
                    (try clear HO_75)
                    (try clear BK705)
                    (try clear BK706)
                    (try clear BK715)
                    (try clear BK737)
                    (try clear HB)
                    generalize ((w113.setCell ⟨gb737, 0, none⟩ (.int .i64 ((rd_T25 t733 x77_3).f0))).setCell ⟨gb737, 1, none⟩ (.int .i64 ((rd_T25 t733 x77_3).f1))) = w118 at n0_ n1_ n2_ n3_ n4_ n5_ n6_ ⊢
                    have HO_8 := n0_
                    have HO_75 := n1_
                    have BK705 := n2_
                    have BK706 := n3_
                    have BK715 := n4_
                    have BK737 := n5_
                    have HB := n6_
                    clear n0_ n1_ n2_ n3_ n4_ n5_ n6_
                    have n0_ := Az.mk (Kd.R_drew HO_8.out)
                    have n1_ := Az.mk (Kd.R_drew HO_75.out)
                    have n2_ := Az.mk (bkD BK705.out)
                    have n3_ := Az.mk (bkD BK706.out)
                    have n4_ := Az.mk (bkD BK715.out)
                    have n5_ := Az.mk (bkD BK737.out)
                    have n6_ := Az.mk (bwD HB.out)
                    clear HO_8
                    clear HO_75
                    clear BK705
                    clear BK706
                    clear BK715
                    clear BK737
                    clear HB
                    have HO_8 := n0_
                    have HO_75 := n1_
                    have BK705 := n2_
                    have BK706 := n3_
                    have BK715 := n4_
                    have BK737 := n5_
                    have HB := n6_
                    clear n0_ n1_ n2_ n3_ n4_ n5_ n6_
                    have p738 : 0 ≤ ((ji98) : Int) := of_decide_eq_true (by first | (with_reducible assumption) | assumption)
                    have q738 : (ji98) < (x8_2.length : Int) := of_decide_eq_true (by first | (with_reducible assumption) | assumption)
                    obtain ⟨ad738, e738, hx738_0, hx738_1⟩ := at_T25 (Kd.R_reads' HO_8.out).2.2 (ji98) p738 q738
                    obtain rfl : ad731 = ad738 := (by injection e738)
                    replace p738 := eq_true p738
                    replace q738 := eq_true q738
                    refine start_ (n := 7) (S := fun w' => w'.cell? ⟨gb737, 0, none⟩ = some (.int .i64 ((rd_T25 t733 x77_3).f0)) ∧ w'.cell? ⟨gb737, 1, none⟩ = some (.int .i64 ((rd_T25 t733 x77_3).f1)) ∧ w'.cell? (ad731.add (((ji98)).toNat * 2)) = some (.int .i64 ((rd_T25 x8_2 (ji98)).f0)) ∧ w'.cell? ⟨(ad731.add (((ji98)).toNat * 2)).block, (ad731.add (((ji98)).toNat * 2)).off + 1, none⟩ = some (.int .i64 ((rd_T25 x8_2 (ji98)).f1))) (ds := []) #[false, false, false, false, false, false, false] (by kernel_rfl) rfl rfl ⟨(bkC BK737.out 0).trans rfl, (bkC BK737.out 1).trans rfl, hx738_0, hx738_1⟩ (fun hHeld => ?_)
                    generalize w118.drew = w119 at HO_8 HO_75 BK705 BK706 BK715 BK737 HB hx738_0 hx738_1 hHeld ⊢
                    refine pure_ (i := 1) (N := some 82) (v := ?_) (a' := ?_) #[false, true, false, false, false, false, false] rfl rfl (by kernel_rfl) (fun _ _ _ h => h) (Or.inl ⟨by rfl, ?_⟩) ?_ ?_
                    rotate_left
                    ·intro w'
                     go_simp
                     with_reducible rfl
                    rotate_left
                    ·simp only [Act.put, List.setIfInBounds_toArray, List.set_cons_zero, List.set_cons_succ, i64_w, i32_w]
                     rfl
                    refine pure_ (i := 2) (N := some 83) (v := ?_) (a' := ?_) #[false, true, true, false, false, false, false] rfl rfl (by kernel_rfl) (fun _ _ _ h => h) (Or.inl ⟨by rfl, ?_⟩) ?_ ?_
                    rotate_left
                    ·intro w'
                     go_simp
                     with_reducible rfl
                    rotate_left
                    ·simp only [Act.put, List.setIfInBounds_toArray, List.set_cons_zero, List.set_cons_succ, i64_w, i32_w]
                     rfl
                    refine pure_ (i := 3) (N := some 84) (v := ?_) (a' := ?_) #[false, true, true, true, false, false, false] rfl rfl (by kernel_rfl) (fun _ _ _ h => h) (Or.inl ⟨by rfl, ?_⟩) ?_ ?_
                    rotate_left
                    ·intro w'
                     go_simp
                     with_reducible rfl
                    rotate_left
                    ·simp only [Act.put, List.setIfInBounds_toArray, List.set_cons_zero, List.set_cons_succ, i64_w, i32_w]
                     rfl
                    refine pure_ (i := 4) (N := some 85) (v := ?_) (a' := ?_) #[false, true, true, true, true, false, false] rfl rfl (by kernel_rfl) (fun _ _ _ h => h) (Or.inl ⟨by rfl, ?_⟩) ?_ ?_
                    rotate_left
                    ·intro w'
                     go_simp
                     with_reducible rfl
                    rotate_left
                    ·simp only [Act.put, List.setIfInBounds_toArray, List.set_cons_zero, List.set_cons_succ, i64_w, i32_w]
                     rfl
                    refine take_ (i := 0) (N := some 81) (v := ?_) (a' := ?_) #[true, true, true, true, true, false, false] rfl rfl (by kernel_rfl) (fun _ _ _ h => h) (Or.inl ⟨by rfl, ?_⟩) hHeld ?_ ?_
                    rotate_left
                    ·rintro w' ⟨s0, s1, s2, s3⟩
                     go_simp
                     with_reducible rfl
                    rotate_left
                    ·simp only [Act.put, List.setIfInBounds_toArray, List.set_cons_zero, List.set_cons_succ, i64_w, i32_w]
                     rfl
                    refine take_ (i := 5) (N := some 86) (v := ?_) (a' := ?_) #[true, true, true, true, true, true, false] rfl rfl (by kernel_rfl) (fun _ _ _ h => h) (Or.inl ⟨by rfl, ?_⟩) hHeld ?_ ?_
                    rotate_left
                    ·rintro w' ⟨s0, s1, s2, s3⟩
                     go_simp
                     with_reducible rfl
                    rotate_left
                    ·simp only [Act.put, List.setIfInBounds_toArray, List.set_cons_zero, List.set_cons_succ, i64_w, i32_w]
                     rfl
                    refine pure_ (i := 6) (N := some 87) (v := ?_) (a' := ?_) #[true, true, true, true, true, true, true] rfl rfl (by kernel_rfl) (fun _ _ _ h => h) (Or.inl ⟨by rfl, ?_⟩) ?_ ?_
                    rotate_left
                    ·intro w'
                     go_simp
                     with_reducible rfl
                    rotate_left
                    ·simp only [Act.put, List.setIfInBounds_toArray, List.set_cons_zero, List.set_cons_succ, i64_w, i32_w]
                     rfl
                    refine done_ (by kernel_rfl) ?_
                    try go_wp2
                    go_roundg k3
                    case measure => have := HJ2.out; have := HK2.out; have := HK3.out; omega
                    case rel => exact ⟨(wrap64 (x77_3 + 1)), (x707000_3), (x707001_3), (by first | rfl | (simp; done) | (simp [*]; done)), H', ⟨by have := HJ2.out; have := HK2.out; have := HK3.out; omega⟩, ⟨by (with_reducible repeat (first | apply Kd.R_alloc | apply Kd.R_drewN | apply Kd.R_drew)); exact Kd.R_mono HO_8.out (fun _ hk => ⟨hk.1, ⟨hk.2.1, hk.2.2.1⟩⟩)⟩, ⟨by (with_reducible repeat (first | apply Kd.R_alloc | apply Kd.R_drewN | apply Kd.R_drew)); exact Kd.R_mono HO_75.out (fun _ hk => ⟨hk.1, ⟨hk.2.1, hk.2.2.1⟩⟩)⟩, ⟨by (with_reducible repeat (first | refine bkN ?_ _ | refine bkD ?_ | refine bkA ?_ _)); exact BK705.out⟩, ⟨by (with_reducible repeat (first | refine bkN ?_ _ | refine bkD ?_ | refine bkA ?_ _)); exact BK706.out⟩, ⟨by (with_reducible repeat (first | refine bkN ?_ _ | refine bkD ?_ | refine bkA ?_ _)); exact BK715.out⟩, ⟨by repeat (first | (with_reducible first | exact HB.out | apply bwA | apply pbN | apply bwD | refine bwS ?_ GE705.out | refine bwS ?_ GE706.out | refine bwS ?_ GE715.out | refine bwS ?_ GE737.out) | exact HB.out)⟩⟩
                  ·rw [if_neg c100] at H
                   exact absurd H (by simp)
                 ·rw [if_neg c99] at H
                  exact absurd H (by simp)
                ·rw [if_neg c97] at H
                 exact absurd H (by simp)
               ·rw [if_neg c96] at H
                exact absurd H (by simp)
              ·rw [if_neg c95] at H
               have c95b0 : decide (x77_3 < (t733.length : Int)) = false := decide_eq_false c95
               clear c95
               simp only [Option.some.injEq, Prod.mk.injEq] at H
               obtain ⟨rfl, rfl, rfl⟩ := H
               have hnb120 := NB706_705.out
               have hnc120 := NB705_706.out
               have hnb121 := NB706_715.out
               have hnc121 := NB715_706.out
               have hcz122_0 : wr.cell? ⟨gb706, 0, none⟩ = some (.int .i64 x707000_3) := (bkC BK706.out 0).trans rfl
               have hcz122_1 : wr.cell? ⟨gb706, 1, none⟩ = some (.int .i64 x707001_3) := (bkC BK706.out 1).trans rfl
               have hfz122_0 := bkF BK706.out 0
               have hfz122_1 := bkF BK706.out 1
               go_wp2
               refine bodyPost_ret (results_ct rfl _ _ gb706 25 #[.int .i64 0, .int .i64 0] (0, 0) _ rfl (by (with_reducible repeat (first | refine bkN ?_ _ | refine bkD ?_ | refine bkA ?_ _)); refine bkp (cs := #[.int .i64 0, .int .i64 x707001_3]) ?_ 1 _ rfl; (with_reducible repeat (first | refine bkN ?_ _ | refine bkD ?_ | refine bkA ?_ _)); refine bkp (cs := #[.int .i64 x707000_3, .int .i64 x707001_3]) ?_ 0 _ rfl; (with_reducible repeat (first | refine bkN ?_ _ | refine bkD ?_ | refine bkA ?_ _)); exact BK706.out) Try.underlying25 rfl (by kernel_rfl)) rfl ?_
               exact ⟨by first | rfl | (simp [eWn, eWs] <;> rfl) | (simp only [← hji84, ← hji87]; first | rfl | (simp [eWn, eWs] <;> rfl)) | (simp [*, eWn, eWs] <;> rfl), by repeat (first | (with_reducible first | exact HB.out | apply bwA | apply pbN | apply bwD | refine bwS ?_ GE705.out | refine bwS ?_ GE706.out | refine bwS ?_ GE715.out) | exact HB.out)⟩
           ·rw [if_neg c89] at H
            exact absurd H (by simp)
          ·rw [if_neg c88] at H
           exact absurd H (by simp)
         ·rw [if_neg c86] at H
          exact absurd H (by simp)
        ·rw [if_neg c85] at H
         exact absurd H (by simp)
    ·replace c31 := Bool.eq_false_iff.mpr c31
     subst c31
     have H1 : (some (0, 0, false)) = some (r1, r2, r3) := by rw [if_neg (show ¬ (false = true) by decide)] at H; exact H
     clear H
     have H := H1
     clear H1
     simp only [Option.some.injEq, Prod.mk.injEq] at H
     obtain ⟨rfl, rfl, rfl⟩ := H
     have hnb123 := NB705_706.out
     have hnc123 := NB706_705.out
     have hcz124_0 : wc.cell? ⟨gb705, 0, none⟩ = some (.int .i64 a0_0) := (bkC BK705.out 0).trans rfl
     have hcz124_1 : wc.cell? ⟨gb705, 1, none⟩ = some (.int .i64 a0_1) := (bkC BK705.out 1).trans rfl
     have hfz124_0 := bkF BK705.out 0
     have hfz124_1 := bkF BK705.out 1
     go_wp2_with (first | ((with_reducible refine gtC (f := 70) rfl ?_); refine goesL_ (some 36) rfl rfl Try.func70 (by kernel_rfl) rfl #[.agg #[.int .i64 a0_0, .int .i64 a0_1]] rfl (by (try simp only [List.map_toArray, List.map_cons, List.map_nil]); first | done | rfl | (simp only [List.length_drop, List.length_take]; rfl)) ?_; (with_reducible refine (impl_TurnsTo.calls kj2 a0_0 a0_1 t709 _ A29.out).mono ?_); rintro e w125 ⟨rfl, hb⟩; refine ⟨_, rfl, ?_⟩; have n0_ := Az.mk (bkB (g := gb705) (o := .cells #[.int .i64 a0_0, .int .i64 a0_1] 25 (0, 0)) (by (with_reducible repeat (first | refine bkN ?_ _ | refine bkD ?_ | refine bkA ?_ _)); exact BK705.out) hb); have n1_ := Az.mk (bkB (g := gb706) (o := .cells #[.int .i64 0, .int .i64 0] 25 (0, 0)) (by (with_reducible repeat (first | refine bkN ?_ _ | refine bkD ?_ | refine bkA ?_ _)); exact BK706.out) hb); have n2_ := Az.mk (bwT (by repeat (first | (with_reducible first | exact HB.out | apply bwA | apply pbN | apply bwD | refine bwS ?_ GE705.out | refine bwS ?_ GE706.out) | exact HB.out)) hb); clear BK705; clear BK706; clear HB; have BK705 := n0_; have BK706 := n1_; have HB := n2_; clear n0_ n1_ n2_; (try clear hb); (try clear hb2); (try clear hk); (try clear hi)) | ((with_reducible refine gtC (f := 69) rfl ?_); refine goesL_ (some 37) rfl rfl Try.func69 (by kernel_rfl) rfl #[.string t709] rfl (by (try simp only [List.map_toArray, List.map_cons, List.map_nil]); first | done | rfl | (simp only [List.length_drop, List.length_take]; rfl)) ?_; (with_reducible refine (impl_TurnsOf.calls kj2 t709 t710 t711 t712 t713 false _ A30.out).mono ?_); rintro e w126 ⟨rfl, hb⟩; refine ⟨_, rfl, ?_⟩; have n0_ := Az.mk (bkB (g := gb705) (o := .cells #[.int .i64 a0_0, .int .i64 a0_1] 25 (0, 0)) (by (with_reducible repeat (first | refine bkN ?_ _ | refine bkD ?_ | refine bkA ?_ _)); exact BK705.out) hb); have n1_ := Az.mk (bkB (g := gb706) (o := .cells #[.int .i64 0, .int .i64 0] 25 (0, 0)) (by (with_reducible repeat (first | refine bkN ?_ _ | refine bkD ?_ | refine bkA ?_ _)); exact BK706.out) hb); have n2_ := Az.mk (bwT (by repeat (first | (with_reducible first | exact HB.out | apply bwA | apply pbN | apply bwD | refine bwS ?_ GE705.out | refine bwS ?_ GE706.out) | exact HB.out)) hb); clear BK705; clear BK706; clear HB; have BK705 := n0_; have BK706 := n1_; have HB := n2_; clear n0_ n1_ n2_; (try clear hb); (try clear hb2); (try clear hk); (try clear hi)) | ((with_reducible refine gtD (N := 6) rfl ?_); refine bxE ?hg (N := 6) ?hd (cs := #[.int .i64 0, .int .i64 0, .int .i64 0, .int .i64 0]) (t := 46) ?hr ?_; (case hd => rfl); (case hg => rfl); (case hr => first | (go_simp; done) | (go_simp; rfl)); intro gb715 hg w127 hbox hb; have n0_ := Az.mk (bkB (g := gb705) (o := .cells #[.int .i64 a0_0, .int .i64 a0_1] 25 (0, 0)) (by (with_reducible repeat (first | refine bkN ?_ _ | refine bkD ?_ | refine bkA ?_ _)); exact BK705.out) hb); have n1_ := Az.mk (bkB (g := gb706) (o := .cells #[.int .i64 0, .int .i64 0] 25 (0, 0)) (by (with_reducible repeat (first | refine bkN ?_ _ | refine bkD ?_ | refine bkA ?_ _)); exact BK706.out) hb); have n2_ := Az.mk (bwT (by repeat (first | (with_reducible first | exact HB.out | apply bwA | apply pbN | apply bwD | refine bwS ?_ GE705.out | refine bwS ?_ GE706.out) | exact HB.out)) hb); have n3_ := Az.mk (hbox); have n4_ := Az.mk ((by rw [hg]; exact (bwZ (by repeat (first | (with_reducible first | exact HB.out | apply bwA | apply pbN | apply bwD | refine bwS ?_ GE705.out | refine bwS ?_ GE706.out) | exact HB.out))) : w.heap.size ≤ gb715)); have n5_ := Az.mk ((by rw [hg]; exact (bwZ (by repeat (first | (with_reducible first | exact HB.out | apply bwA | apply pbN | apply bwD | refine bwS ?_ GE705.out | refine bwS ?_ GE706.out) | exact HB.out))) : w.heap.size ≤ gb715)); have n6_ := Az.mk ((by rw [hg]; exact Nat.ne_of_lt (blk_lt (g := gb705) (o := .cells #[.int .i64 a0_0, .int .i64 a0_1] 25 (0, 0)) (by (with_reducible repeat (first | refine bkN ?_ _ | refine bkD ?_ | refine bkA ?_ _)); exact BK705.out)) : gb705 ≠ gb715)); have n7_ := Az.mk ((by rw [hg]; exact Nat.ne_of_gt (blk_lt (g := gb705) (o := .cells #[.int .i64 a0_0, .int .i64 a0_1] 25 (0, 0)) (by (with_reducible repeat (first | refine bkN ?_ _ | refine bkD ?_ | refine bkA ?_ _)); exact BK705.out)) : gb715 ≠ gb705)); have n8_ := Az.mk ((by rw [hg]; exact Nat.ne_of_lt (blk_lt (g := gb706) (o := .cells #[.int .i64 0, .int .i64 0] 25 (0, 0)) (by (with_reducible repeat (first | refine bkN ?_ _ | refine bkD ?_ | refine bkA ?_ _)); exact BK706.out)) : gb706 ≠ gb715)); have n9_ := Az.mk ((by rw [hg]; exact Nat.ne_of_gt (blk_lt (g := gb706) (o := .cells #[.int .i64 0, .int .i64 0] 25 (0, 0)) (by (with_reducible repeat (first | refine bkN ?_ _ | refine bkD ?_ | refine bkA ?_ _)); exact BK706.out)) : gb715 ≠ gb706)); clear BK705; clear BK706; clear HB; have BK705 := n0_; have BK706 := n1_; have HB := n2_; have BK715 := n3_; have GW715 := n4_; have GE715 := n5_; have NB705_715 := n6_; have NB715_705 := n7_; have NB706_715 := n8_; have NB715_706 := n9_; clear n0_ n1_ n2_ n3_ n4_ n5_ n6_ n7_ n8_ n9_; clear hb hbox hg; have hnb128 := NB715_705.out; have hnc128 := NB705_715.out; have hnb129 := NB715_706.out; have hnc129 := NB706_715.out; have hcz130_0 : w127.cell? ⟨gb715, 0, none⟩ = some (.int .i64 0) := (bkC BK715.out 0).trans rfl; have hcz130_1 : w127.cell? ⟨gb715, 1, none⟩ = some (.int .i64 0) := (bkC BK715.out 1).trans rfl; have hcz130_2 : w127.cell? ⟨gb715, 2, none⟩ = some (.int .i64 0) := (bkC BK715.out 2).trans rfl; have hcz130_3 : w127.cell? ⟨gb715, 3, none⟩ = some (.int .i64 0) := (bkC BK715.out 3).trans rfl; have hfz130_0 := bkF BK715.out 0; have hfz130_1 := bkF BK715.out 1; have hfz130_2 := bkF BK715.out 2; have hfz130_3 := bkF BK715.out 3; have hcz131_0 : w127.cell? ⟨gb706, 0, none⟩ = some (.int .i64 0) := (bkC BK706.out 0).trans rfl; have hcz131_1 : w127.cell? ⟨gb706, 1, none⟩ = some (.int .i64 0) := (bkC BK706.out 1).trans rfl; have hfz131_0 := bkF BK706.out 0; have hfz131_1 := bkF BK706.out 1))
     refine bodyPost_ret (results_ct rfl _ _ gb706 25 #[.int .i64 0, .int .i64 0] (0, 0) _ rfl (by (with_reducible repeat (first | refine bkN ?_ _ | refine bkD ?_ | refine bkA ?_ _)); refine bkp (cs := #[.int .i64 0, .int .i64 0]) ?_ 1 _ rfl; (with_reducible repeat (first | refine bkN ?_ _ | refine bkD ?_ | refine bkA ?_ _)); refine bkp (cs := #[.int .i64 0, .int .i64 0]) ?_ 0 _ rfl; (with_reducible repeat (first | refine bkN ?_ _ | refine bkD ?_ | refine bkA ?_ _)); refine bkf ?_ NB706_715.out _; (with_reducible repeat (first | refine bkN ?_ _ | refine bkD ?_ | refine bkA ?_ _)); refine bkf ?_ NB706_715.out _; (with_reducible repeat (first | refine bkN ?_ _ | refine bkD ?_ | refine bkA ?_ _)); refine bkf ?_ NB706_715.out _; (with_reducible repeat (first | refine bkN ?_ _ | refine bkD ?_ | refine bkA ?_ _)); refine bkf ?_ NB706_715.out _; (with_reducible repeat (first | refine bkN ?_ _ | refine bkD ?_ | refine bkA ?_ _)); exact BK706.out) Try.underlying25 rfl (by kernel_rfl)) rfl ?_
     exact ⟨by first | rfl | (simp [eWn, eWs] <;> rfl) | (simp [*, eWn, eWs] <;> rfl), by repeat (first | (with_reducible first | exact HB.out | apply bwA | apply pbN | apply bwD | refine bwS ?_ GE705.out | refine bwS ?_ GE706.out | refine bwS ?_ GE715.out) | exact HB.out)⟩

end Go.Proofs.Ytbnjcebmnamfjaa.P
