-- By this session's driver (wip/tools/mk.py) of the kit's print program, over several statements at once. Not trusted: Lean checks it.
import Derived.Test.YtbnjcebmnamfjaaQPx0
import Derived.Test.YtbnjcebmnamfjaaQPx19
namespace Go.Proofs.Ytbnjcebmnamfjaa.P
open Go.RowKit Go.Proofs.YtbnjcebmnamfjaaW.PrintWords Go.Proofs.YtbnjcebmnamfjaaW.PrintLast Go.Proofs.YtbnjcebmnamfjaaW.PrintMore
attribute [local go_sem] max2_int min2_int max_two min_two max_three min_three max_four min_four   -- for this text's walks alone
set_option linter.unusedVariables false
set_option linter.unusedSimpArgs false

/-! ### spec_TurnsOf: function 66 -/
mutual
def spec_TurnsOf.l0 : Nat → ByteArray → Int → Int → Int → Int → Int → Option (Int × Int × Int × Int × Bool)
 | 0, _, _, _, _, _, _ => none
 | k + 1, x0, x5, x545000, x545001, x545002, x545003 => if x5 < (x0.size : Int) then (spec_TurnsOf.j1 k x0 x5 (decide ((x0.size : Int) ≤ 24)) x545000 x545001 x545002 x545003) else (spec_TurnsOf.j1 k x0 x5 false x545000 x545001 x545002 x545003)
def spec_TurnsOf.j1 : Nat → ByteArray → Int → Bool → Int → Int → Int → Int → Option (Int × Int × Int × Int × Bool)
 | 0, _, _, _, _, _, _, _ => none
 | k + 1, x0, x5, x17, x545000, x545001, x545002, x545003 => if x17 = true then (if 0 ≤ x5 then (if x5 < (x0.size : Int) then ((spec_l13Turn.f (bt x0 x5)).bind fun bt545 => ((spec_TimesMatrix.f k x545000 x545001 x545002 x545003 bt545.1 bt545.2.1 bt545.2.2.1 bt545.2.2.2).bind fun bt549 => (if bt549.2.2.2.2 = true then (spec_TurnsOf.l0 k x0 (wrap64 (x5 + 1)) bt549.1 bt549.2.1 bt549.2.2.1 bt549.2.2.2.1) else (some (0, 0, 0, 0, false))))) else (none)) else (none)) else (if (x0.size : Int) > 24 then (some (0, 0, 0, 0, false)) else (some (x545000, x545001, x545002, x545003, true)))
end
def spec_TurnsOf.f (k : Nat) (a0 : ByteArray) : Option (Int × Int × Int × Int × Bool) := spec_TurnsOf.l0 k a0 0 1 0 0 1
theorem spec_TurnsOf.mono_l : ∀ k, (∀ y0 y1 y2 y3 y4 y5, LeO (spec_TurnsOf.l0 k y0 y1 y2 y3 y4 y5) (spec_TurnsOf.l0 (k + 1) y0 y1 y2 y3 y4 y5)) ∧ (∀ y0 y1 y2 y3 y4 y5 y6, LeO (spec_TurnsOf.j1 k y0 y1 y2 y3 y4 y5 y6) (spec_TurnsOf.j1 (k + 1) y0 y1 y2 y3 y4 y5 y6))
 | 0 => ⟨fun _ _ _ _ _ _ r h => by simp [spec_TurnsOf.l0] at h, fun _ _ _ _ _ _ _ r h => by simp [spec_TurnsOf.j1] at h⟩
 | k + 1 => by
  obtain ⟨ih0, ih1⟩ := spec_TurnsOf.mono_l k
  refine ⟨?_, ?_⟩
  ·intro y0 y1 y2 y3 y4 y5
   unfold spec_TurnsOf.l0
   repeat' first
   | (with_reducible exact ih0 _ _ _ _ _ _)
   | (with_reducible exact ih1 _ _ _ _ _ _ _)
   | (with_reducible exact spec_TimesMatrix.mono _ _ _ _ _ _ _ _ _)
   | (with_reducible exact LeO.refl _)
   | (with_reducible exact LeO.none _)
   | (with_reducible refine LeO.ite ?_ ?_)
   | (with_reducible refine LeO.bind ?_ (fun _ => ?_))
   | exact ih0 _ _ _ _ _ _
   | exact ih1 _ _ _ _ _ _ _
   | exact spec_TimesMatrix.mono _ _ _ _ _ _ _ _ _
   | exact LeO.none _
   | refine LeO.ite ?_ ?_
   | refine LeO.bind ?_ (fun _ => ?_)
  ·intro y0 y1 y2 y3 y4 y5 y6
   unfold spec_TurnsOf.j1
   repeat' first
   | (with_reducible exact ih0 _ _ _ _ _ _)
   | (with_reducible exact ih1 _ _ _ _ _ _ _)
   | (with_reducible exact spec_TimesMatrix.mono _ _ _ _ _ _ _ _ _)
   | (with_reducible exact LeO.refl _)
   | (with_reducible exact LeO.none _)
   | (with_reducible refine LeO.ite ?_ ?_)
   | (with_reducible refine LeO.bind ?_ (fun _ => ?_))
   | exact ih0 _ _ _ _ _ _
   | exact ih1 _ _ _ _ _ _ _
   | exact spec_TimesMatrix.mono _ _ _ _ _ _ _ _ _
   | exact LeO.none _
   | refine LeO.ite ?_ ?_
   | refine LeO.bind ?_ (fun _ => ?_)
theorem spec_TurnsOf.mono : ∀ a0 k, LeO (spec_TurnsOf.f k a0) (spec_TurnsOf.f (k + 1) a0) := by
 intro a0 k
 obtain ⟨ih0, ih1⟩ := spec_TurnsOf.mono_l k
 unfold spec_TurnsOf.f
 repeat' first
   | (with_reducible exact ih0 _ _ _ _ _ _)
   | (with_reducible exact ih1 _ _ _ _ _ _ _)
   | (with_reducible exact spec_TimesMatrix.mono _ _ _ _ _ _ _ _ _)
   | (with_reducible exact LeO.refl _)
   | (with_reducible exact LeO.none _)
   | (with_reducible refine LeO.ite ?_ ?_)
   | (with_reducible refine LeO.bind ?_ (fun _ => ?_))
   | exact ih0 _ _ _ _ _ _
   | exact ih1 _ _ _ _ _ _ _
   | exact spec_TimesMatrix.mono _ _ _ _ _ _ _ _ _
   | exact LeO.none _
   | refine LeO.ite ?_ ?_
   | refine LeO.bind ?_ (fun _ => ?_)
def spec_TurnsOf.T5 : Bool × List (List Nat × List Nat) := (true, [([], []), ([], []), ([], []), ([1, 2], [1, 2]), ([3], [3]), ([0, 4, 4], [0, 4]), ([5], [5]), ([6], [6]), ([6], [6]), ([], []), ([9, 7, 5, 0, 1, 2, 3, 4, 5, 6, 7, 9], [7, 9]), ([8, 10, 0, 1, 2, 3, 4, 5, 6, 7, 8, 9, 10], [8])])
def spec_TurnsOf.B5 : List Nat := [0, 0, 0, 6, 14, 31, 63, 127, 127, 0, 767, 2047]
theorem spec_TurnsOf.tab5 : rtab .any (opsOf Try.f66 5) = spec_TurnsOf.T5 := by kernel_rfl
theorem spec_TurnsOf.bits5 : waitsOk spec_TurnsOf.T5.2 spec_TurnsOf.B5 = true := by kernel_rfl
set_option maxHeartbeats 8000000 in
set_option maxRecDepth 100000 in
theorem spec_TurnsOf.calls (k : Nat) (a0 : ByteArray) (r1 : Int) (r2 : Int) (r3 : Int) (r4 : Int) (r5 : Bool) (w : World) (h : spec_TurnsOf.f k a0 = some (r1, r2, r3, r4, r5)) :
  Calls Try.prog 66 #[.string a0] w fun e w' => e = .returned (.tuple #[.agg #[.int .i64 r1, .int .i64 r2, .int .i64 r3, .int .i64 r4], .bool r5]) ∧ Below w.heap.size w w' := by
 have hu46 := Try.underlying46
 have HB := Az.mk (Below.refl w.heap.size w)
 have H : (spec_TurnsOf.l0 k a0 0 1 0 0 1) = some (r1, r2, r3, r4, r5) := h
 clear h
 have H' := Az.mk H
 clear H
 go_enter Try.func66, Try.ntmps66
 go_wp2_with (first | ((with_reducible refine gtD (N := 2) rfl ?_); (try (refine gate_guard (by rfl) ?_; dsimp only)); refine bxE ?hg (N := 2) ?hd (cs := #[.int .i64 0, .int .i64 0, .int .i64 0, .int .i64 0]) (t := 46) ?hr ?_; (case hd => rfl); (case hg => rfl); (case hr => first | (go_simp; done) | (go_simp; rfl)); intro gb543 hg w2 hbox hb; have n0_ := Az.mk (bwT (by repeat (first | (with_reducible first | exact HB.out | apply bwA | apply pbN | apply bwD) | exact HB.out)) hb); have n1_ := Az.mk (hbox); have n2_ := Az.mk ((by rw [hg]; exact (bwZ (by repeat (first | (with_reducible first | exact HB.out | apply bwA | apply pbN | apply bwD) | exact HB.out))) : w.heap.size ≤ gb543)); have n3_ := Az.mk ((by rw [hg]; exact (bwZ (by repeat (first | (with_reducible first | exact HB.out | apply bwA | apply pbN | apply bwD) | exact HB.out))) : w.heap.size ≤ gb543)); clear HB; have HB := n0_; have BK543 := n1_; have GW543 := n2_; have GE543 := n3_; clear n0_ n1_ n2_ n3_; clear hb hbox hg) | ((with_reducible refine gtD (N := 4) rfl ?_); (try (refine gate_guard (by rfl) ?_; dsimp only)); refine bxE ?hg (N := 4) ?hd (cs := #[.int .i64 0, .int .i64 0, .int .i64 0, .int .i64 0]) (t := 46) ?hr ?_; (case hd => rfl); (case hg => rfl); (case hr => first | (go_simp; done) | (go_simp; rfl)); intro gb544 hg w3 hbox hb; have n0_ := Az.mk (bkB (g := gb543) (o := .cells #[.int .i64 0, .int .i64 0, .int .i64 0, .int .i64 0] 46 (0, 0)) (by (with_reducible repeat (first | refine bkN ?_ _ | refine bkD ?_ | refine bkA ?_ _)); exact BK543.out) hb); have n1_ := Az.mk (bwT (by repeat (first | (with_reducible first | exact HB.out | apply bwA | apply pbN | apply bwD | refine bwS ?_ GE543.out) | exact HB.out)) hb); have n2_ := Az.mk (hbox); have n3_ := Az.mk ((by rw [hg]; exact (bwZ (by repeat (first | (with_reducible first | exact HB.out | apply bwA | apply pbN | apply bwD | refine bwS ?_ GE543.out) | exact HB.out))) : w.heap.size ≤ gb544)); have n4_ := Az.mk ((by rw [hg]; exact (bwZ (by repeat (first | (with_reducible first | exact HB.out | apply bwA | apply pbN | apply bwD | refine bwS ?_ GE543.out) | exact HB.out))) : w.heap.size ≤ gb544)); have n5_ := Az.mk ((by rw [hg]; exact Nat.ne_of_lt (blk_lt (g := gb543) (o := .cells #[.int .i64 0, .int .i64 0, .int .i64 0, .int .i64 0] 46 (0, 0)) (by (with_reducible repeat (first | refine bkN ?_ _ | refine bkD ?_ | refine bkA ?_ _)); exact BK543.out)) : gb543 ≠ gb544)); have n6_ := Az.mk ((by rw [hg]; exact Nat.ne_of_gt (blk_lt (g := gb543) (o := .cells #[.int .i64 0, .int .i64 0, .int .i64 0, .int .i64 0] 46 (0, 0)) (by (with_reducible repeat (first | refine bkN ?_ _ | refine bkD ?_ | refine bkA ?_ _)); exact BK543.out)) : gb544 ≠ gb543)); clear BK543; clear HB; have BK543 := n0_; have HB := n1_; have BK544 := n2_; have GW544 := n3_; have GE544 := n4_; have NB543_544 := n5_; have NB544_543 := n6_; clear n0_ n1_ n2_ n3_ n4_ n5_ n6_; clear hb hbox hg; have hnb4 := NB544_543.out; have hnc4 := NB543_544.out; have hcz5_0 : w3.cell? ⟨gb544, 0, none⟩ = some (.int .i64 0) := (bkC BK544.out 0).trans rfl; have hcz5_1 : w3.cell? ⟨gb544, 1, none⟩ = some (.int .i64 0) := (bkC BK544.out 1).trans rfl; have hcz5_2 : w3.cell? ⟨gb544, 2, none⟩ = some (.int .i64 0) := (bkC BK544.out 2).trans rfl; have hcz5_3 : w3.cell? ⟨gb544, 3, none⟩ = some (.int .i64 0) := (bkC BK544.out 3).trans rfl; have hfz5_0 := bkF BK544.out 0; have hfz5_1 := bkF BK544.out 1; have hfz5_2 := bkF BK544.out 2; have hfz5_3 := bkF BK544.out 3))
 go_loopg [5] k (fun kq v5 w' => ∃ (x5_1 : Int) (x544000_1 : Int) (x544001_1 : Int) (x544002_1 : Int) (x544003_1 : Int) (x545000_1 : Int) (x545001_1 : Int) (x545002_1 : Int) (x545003_1 : Int), v5 = .int .i64 x5_1 ∧ Az (spec_TurnsOf.l0 kq a0 x5_1 x545000_1 x545001_1 x545002_1 x545003_1 = some (r1, r2, r3, r4, r5)) ∧ Az (kq ≤ k) ∧ Az (w'.heap[gb543]? = some (.cells #[.int .i64 x544000_1, .int .i64 x544001_1, .int .i64 x544002_1, .int .i64 x544003_1] 46 (0, 0))) ∧ Az (w'.heap[gb544]? = some (.cells #[.int .i64 x545000_1, .int .i64 x545001_1, .int .i64 x545002_1, .int .i64 x545003_1] 46 (0, 0))) ∧ Az (Below w.heap.size w w'))
 case atStart => exact ⟨(0), (0), (0), (0), (0), (1), (0), (0), (1), (by first | rfl | (simp; done) | (simp [*]; done)), H', ⟨Nat.le_refl _⟩, ⟨by (with_reducible repeat (first | refine bkN ?_ _ | refine bkD ?_ | refine bkA ?_ _)); refine bkf ?_ NB543_544.out _; (with_reducible repeat (first | refine bkN ?_ _ | refine bkD ?_ | refine bkA ?_ _)); refine bkf ?_ NB543_544.out _; (with_reducible repeat (first | refine bkN ?_ _ | refine bkD ?_ | refine bkA ?_ _)); refine bkf ?_ NB543_544.out _; (with_reducible repeat (first | refine bkN ?_ _ | refine bkD ?_ | refine bkA ?_ _)); refine bkf ?_ NB543_544.out _; (with_reducible repeat (first | refine bkN ?_ _ | refine bkD ?_ | refine bkA ?_ _)); exact BK543.out⟩, ⟨by (with_reducible repeat (first | refine bkN ?_ _ | refine bkD ?_ | refine bkA ?_ _)); refine bkp (cs := #[.int .i64 1, .int .i64 0, .int .i64 0, .int .i64 0]) ?_ 3 _ rfl; (with_reducible repeat (first | refine bkN ?_ _ | refine bkD ?_ | refine bkA ?_ _)); refine bkp (cs := #[.int .i64 1, .int .i64 0, .int .i64 0, .int .i64 0]) ?_ 2 _ rfl; (with_reducible repeat (first | refine bkN ?_ _ | refine bkD ?_ | refine bkA ?_ _)); refine bkp (cs := #[.int .i64 1, .int .i64 0, .int .i64 0, .int .i64 0]) ?_ 1 _ rfl; (with_reducible repeat (first | refine bkN ?_ _ | refine bkD ?_ | refine bkA ?_ _)); refine bkp (cs := #[.int .i64 0, .int .i64 0, .int .i64 0, .int .i64 0]) ?_ 0 _ rfl; (with_reducible repeat (first | refine bkN ?_ _ | refine bkD ?_ | refine bkA ?_ _)); exact BK544.out⟩, ⟨by repeat (first | (with_reducible first | exact HB.out | apply bwA | apply pbN | apply bwD | refine bwS ?_ GE543.out | refine bwS ?_ GE544.out) | exact HB.out)⟩⟩
 case round =>
  clear H'
  try clear p2
  try clear c4
  try clear hcz5_0
  try clear hcz5_1
  try clear hcz5_2
  try clear hcz5_3
  try clear hfz5_0
  try clear hfz5_1
  try clear hfz5_2
  try clear hfz5_3
  obtain ⟨x5_1, x544000_1, x544001_1, x544002_1, x544003_1, x545000_1, x545001_1, x545002_1, x545003_1, rfl, HA, HK1, BK543, BK544, HB⟩ := hrel
  cases gk with
  | zero => exact absurd HA.out (by simp [spec_TurnsOf.l0])
  | succ k1 =>
   have H := HA.out
   clear HA
   simp only [spec_TurnsOf.l0] at H
   have HC6 := Az.mk H
   clear H
   go_upto_region 3 with (fail)
   go_cut [17] (fun v17 wc => ∃ (kq : Nat) (x17_5 : Bool), v17 = .bool x17_5 ∧ Az (spec_TurnsOf.j1 kq a0 x5_1 x17_5 x545000_1 x545001_1 x545002_1 x545003_1 = some (r1, r2, r3, r4, r5)) ∧ Az (kq ≤ k1) ∧ Az (wc.heap[gb543]? = some (.cells #[.int .i64 x544000_1, .int .i64 x544001_1, .int .i64 x544002_1, .int .i64 x544003_1] 46 (0, 0))) ∧ Az (wc.heap[gb544]? = some (.cells #[.int .i64 x545000_1, .int .i64 x545001_1, .int .i64 x545002_1, .int .i64 x545003_1] 46 (0, 0))) ∧ Az (Below w.heap.size w wc))
   case first =>
    have H := HC6.out
    clear HC6
    by_cases c7 : x5_1 < (a0.size : Int)
    ·rw [if_pos c7] at H
     have c7b0 : decide (x5_1 < (a0.size : Int)) = true := decide_eq_true c7
     clear c7
     (first | rw [c7b0] | (simp only [i64_w, i32_w]; rw [c7b0]) | skip)
     have H' := Az.mk H
     clear H
     go_wp2
     go_meet
     case rel => exact ⟨_, (decide ((a0.size : Int) ≤ 24)), (by first | rfl | (simp; done) | (simp [*]; done)), H', ⟨by have := HK1.out; first | omega | exact Nat.le_refl _⟩, ⟨by (with_reducible repeat (first | refine bkN ?_ _ | refine bkD ?_ | refine bkA ?_ _)); exact BK543.out⟩, ⟨by (with_reducible repeat (first | refine bkN ?_ _ | refine bkD ?_ | refine bkA ?_ _)); exact BK544.out⟩, ⟨by repeat (first | (with_reducible first | exact HB.out | apply bwA | apply pbN | apply bwD | refine bwS ?_ GE543.out | refine bwS ?_ GE544.out) | exact HB.out)⟩⟩
    ·rw [if_neg c7] at H
     have c7b0 : decide (x5_1 < (a0.size : Int)) = false := decide_eq_false c7
     clear c7
     (first | rw [c7b0] | (simp only [i64_w, i32_w]; rw [c7b0]) | skip)
     have H' := Az.mk H
     clear H
     go_wp2
     go_meet
     case rel => exact ⟨_, (false), (by first | rfl | (simp; done) | (simp [*]; done)), H', ⟨by have := HK1.out; first | omega | exact Nat.le_refl _⟩, ⟨by (with_reducible repeat (first | refine bkN ?_ _ | refine bkD ?_ | refine bkA ?_ _)); exact BK543.out⟩, ⟨by (with_reducible repeat (first | refine bkN ?_ _ | refine bkD ?_ | refine bkA ?_ _)); exact BK544.out⟩, ⟨by repeat (first | (with_reducible first | exact HB.out | apply bwA | apply pbN | apply bwD | refine bwS ?_ GE543.out | refine bwS ?_ GE544.out) | exact HB.out)⟩⟩
   case rest =>
    clear HC6
    try clear p2
    try clear c4
    try clear c6
    try clear c7
    try clear c7b0
    try clear hcz5_0
    try clear hcz5_1
    try clear hcz5_2
    try clear hcz5_3
    try clear hfz5_0
    try clear hfz5_1
    try clear hfz5_2
    try clear hfz5_3
    try clear p2
    obtain ⟨kq, x17_5, rfl, HA, HJ5, BK543, BK544, HB⟩ := hcut
    cases kq with
    | zero => exact absurd HA.out (by simp [spec_TurnsOf.j1])
    | succ kj5 =>
     have H := HA.out
     clear HA
     simp only [spec_TurnsOf.j1] at H
     by_cases c8 : x17_5 = true
     ·subst c8
      have H1 : (if 0 ≤ x5_1 then (if x5_1 < (a0.size : Int) then ((spec_l13Turn.f (bt a0 x5_1)).bind fun bt545 => ((spec_TimesMatrix.f kj5 x545000_1 x545001_1 x545002_1 x545003_1 bt545.1 bt545.2.1 bt545.2.2.1 bt545.2.2.2).bind fun bt549 => (if bt549.2.2.2.2 = true then (spec_TurnsOf.l0 kj5 a0 (wrap64 (x5_1 + 1)) bt549.1 bt549.2.1 bt549.2.2.1 bt549.2.2.2.1) else (some (0, 0, 0, 0, false))))) else (none)) else (none)) = some (r1, r2, r3, r4, r5) := by rw [if_pos rfl] at H; exact H
      clear H
      have H := H1
      clear H1
      by_cases c9 : 0 ≤ x5_1
      ·rw [if_pos c9] at H
       have c9b0 : decide (0 ≤ x5_1) = true := decide_eq_true c9
       clear c9
       by_cases c10 : x5_1 < (a0.size : Int)
       ·rw [if_pos c10] at H
        have c10b0 : decide (x5_1 < (a0.size : Int)) = true := decide_eq_true c10
        clear c10
        replace H := Option.bind_eq_some_iff.mp H
        obtain ⟨⟨t545, t546, t547, t548⟩, A120, H⟩ := H
        replace H : ((spec_TimesMatrix.f kj5 x545000_1 x545001_1 x545002_1 x545003_1 t545 t546 t547 t548).bind fun bt549 => (if bt549.2.2.2.2 = true then (spec_TurnsOf.l0 kj5 a0 (wrap64 (x5_1 + 1)) bt549.1 bt549.2.1 bt549.2.2.1 bt549.2.2.2.1) else (some (0, 0, 0, 0, false)))) = some (r1, r2, r3, r4, r5) := H
        have A12 := Az.mk A120
        clear A120
        replace H := Option.bind_eq_some_iff.mp H
        obtain ⟨⟨t549, t550, t551, t552, t553⟩, A130, H⟩ := H
        replace H : (if t553 = true then (spec_TurnsOf.l0 kj5 a0 (wrap64 (x5_1 + 1)) t549 t550 t551 t552) else (some (0, 0, 0, 0, false))) = some (r1, r2, r3, r4, r5) := H
        have A13 := Az.mk A130
        clear A130
        by_cases c14 : t553 = true
        ·subst c14
         have H1 : (spec_TurnsOf.l0 kj5 a0 (wrap64 (x5_1 + 1)) t549 t550 t551 t552) = some (r1, r2, r3, r4, r5) := by rw [if_pos rfl] at H; exact H
         clear H
         have H := H1
         clear H1
         have H' := Az.mk H
         clear H
         try go_wp2
         have n0_ := Az.mk (bkD BK543.out)
         have n1_ := Az.mk (bkD BK544.out)
         have n2_ := Az.mk (bwD HB.out)
         clear BK543
         clear BK544
         clear HB
         have BK543 := n0_
         have BK544 := n1_
         have HB := n2_
         clear n0_ n1_ n2_
         have p11 : 0 ≤ (x5_1 : Int) := of_decide_eq_true (by first | (with_reducible assumption) | assumption)
         have q11 : x5_1 < (a0.size : Int) := of_decide_eq_true (by first | (with_reducible assumption) | assumption)
         have hx11 := bt_at a0 x5_1
         replace p11 := eq_true p11
         replace q11 := eq_true q11
         refine start_ (n := 12) (S := fun w' => w'.cell? ⟨gb544, 0, none⟩ = some (.int .i64 x545000_1) ∧ w'.cell? ⟨gb544, 1, none⟩ = some (.int .i64 x545001_1) ∧ w'.cell? ⟨gb544, 2, none⟩ = some (.int .i64 x545002_1) ∧ w'.cell? ⟨gb544, 3, none⟩ = some (.int .i64 x545003_1)) (ds := []) #[false, false, false, false, false, false, false, false, false, false, false, false] (by kernel_rfl) rfl rfl ⟨(bkC BK544.out 0).trans rfl, (bkC BK544.out 1).trans rfl, (bkC BK544.out 2).trans rfl, (bkC BK544.out 3).trans rfl⟩ (fun hHeld => ?_); refine with_tabW spec_TurnsOf.tab5 spec_TurnsOf.bits5 (fun HT_ HW_ => ?_)
         generalize wc.drew = w15 at BK543 BK544 HB hHeld ⊢
         refine pure_ (i := 1) (N := some 22) (v := ?_) (a' := ?_) #[false, true, false, false, false, false, false, false, false, false, false, false] rfl rfl (any_of HT_.out (by kernel_rfl)) (fun _ _ _ h => h) (Or.inl ⟨by rfl, ?_⟩) ?_ ?_
         rotate_left
         ·intro w'
          go_simp
          with_reducible rfl
         rotate_left
         ·simp only [Act.put, List.setIfInBounds_toArray, List.set_cons_zero, List.set_cons_succ, i64_w, i32_w]
          rfl
         refine pure_ (i := 2) (N := some 23) (v := ?_) (a' := ?_) #[false, true, true, false, false, false, false, false, false, false, false, false] rfl rfl (any_of HT_.out (by kernel_rfl)) (fun _ _ _ h => h) (Or.inl ⟨by rfl, ?_⟩) ?_ ?_
         rotate_left
         ·intro w'
          go_simp
          with_reducible rfl
         rotate_left
         ·simp only [Act.put, List.setIfInBounds_toArray, List.set_cons_zero, List.set_cons_succ, i64_w, i32_w]
          rfl
         refine take_ (i := 0) (N := some 21) (v := ?_) (a' := ?_) #[true, true, true, false, false, false, false, false, false, false, false, false] rfl rfl (take_ofW HT_.out HW_.out (by kernel_rfl)) (fun _ _ _ h => h) (Or.inl ⟨by rfl, ?_⟩) hHeld ?_ ?_
         rotate_left
         ·rintro w' ⟨s0, s1, s2, s3⟩
          go_simp
          with_reducible rfl
         rotate_left
         ·simp only [Act.put, List.setIfInBounds_toArray, List.set_cons_zero, List.set_cons_succ, i64_w, i32_w]
          rfl
         refine take_ (i := 3) (N := some 24) (v := ?_) (a' := ?_) #[true, true, true, true, false, false, false, false, false, false, false, false] rfl rfl (take_ofW HT_.out HW_.out (by kernel_rfl)) (fun _ _ _ h => h) (Or.inl ⟨by rfl, ?_⟩) hHeld ?_ ?_
         rotate_left
         ·rintro w' ⟨s0, s1, s2, s3⟩
          go_simp
          with_reducible rfl
         rotate_left
         ·simp only [Act.put, List.setIfInBounds_toArray, List.set_cons_zero, List.set_cons_succ, i64_w, i32_w]
          rfl
         refine join_ (σ := Nat) 2 #[true, true, true, true, true, true, true, true, true, true, false, false] (fun s_ => [(25, .agg #[.int .i64 t545, .int .i64 t546, .int .i64 t547, .int .i64 t548]), (26, .tuple #[.agg #[.int .i64 t549, .int .i64 t550, .int .i64 t551, .int .i64 t552], .bool true]), (6, .pointer (some ⟨s_, 0, none⟩)), (20, .tuple #[.agg #[.int .i64 t549, .int .i64 t550, .int .i64 t551, .int .i64 t552], .bool true]), (27, .agg #[.int .i64 t549, .int .i64 t550, .int .i64 t551, .int .i64 t552]), (28, .bool true)]) (fun s_ w' => (w'.cell? ⟨gb544, 0, none⟩ = some (.int .i64 x545000_1) ∧ w'.cell? ⟨gb544, 1, none⟩ = some (.int .i64 x545001_1) ∧ w'.cell? ⟨gb544, 2, none⟩ = some (.int .i64 x545002_1) ∧ w'.cell? ⟨gb544, 3, none⟩ = some (.int .i64 x545003_1)) ∧ (w'.heap[gb543]? = some (.cells #[.int .i64 x544000_1, .int .i64 x544001_1, .int .i64 x544002_1, .int .i64 x544003_1] 46 (0, 0))) ∧ (w'.heap[gb544]? = some (.cells #[.int .i64 x545000_1, .int .i64 x545001_1, .int .i64 x545002_1, .int .i64 x545003_1] 46 (0, 0))) ∧ (w'.heap[s_]? = some (.cells #[.int .i64 0, .int .i64 0, .int .i64 0, .int .i64 0] 46 (0, 0))) ∧ (w.heap.size ≤ s_) ∧ (w.heap.size ≤ s_) ∧ (gb543 ≠ s_) ∧ (s_ ≠ gb543) ∧ (gb544 ≠ s_) ∧ (s_ ≠ gb544) ∧ (Below w.heap.size w w')) ?_ ?_
         rotate_left
         ·intro hCont
          refine two_ (i := 4) (j := 9) (Ni := some 25) (Nj := some 6) #[true, true, true, true, true, false, false, false, false, false, false, false] #[true, true, true, true, false, false, false, false, false, true, false, false] rfl rfl rfl rfl (two_of HT_.out (by kernel_rfl)) (by decide) (by decide) (fun K hK => ?_) (fun K hK => ?_)
          ·skip
           refine goes_ Try.func89 (by kernel_rfl) rfl #[.int .u8 (bt a0 x5_1)] (by rfl) rfl rfl (by (try simp only [List.map_toArray, List.map_cons, List.map_nil]); first | done | rfl | (simp only [List.length_drop, List.length_take]; rfl)) ?_
           with_reducible refine (spec_l13Turn.calls (bt a0 x5_1) t545 t546 t547 t548 _ A12.out).mono ?_
           rintro e w16 ⟨rfl, hb⟩
           refine ⟨_, rfl, ?_⟩
           have n0_ := Az.mk (bkB (g := gb543) (o := .cells #[.int .i64 x544000_1, .int .i64 x544001_1, .int .i64 x544002_1, .int .i64 x544003_1] 46 (0, 0)) (by (with_reducible repeat (first | refine bkN ?_ _ | refine bkD ?_ | refine bkA ?_ _)); exact BK543.out) hb)
           have n1_ := Az.mk (bkB (g := gb544) (o := .cells #[.int .i64 x545000_1, .int .i64 x545001_1, .int .i64 x545002_1, .int .i64 x545003_1] 46 (0, 0)) (by (with_reducible repeat (first | refine bkN ?_ _ | refine bkD ?_ | refine bkA ?_ _)); exact BK544.out) hb)
           have n2_ := Az.mk (bwT (by repeat (first | (with_reducible first | exact HB.out | apply bwA | apply pbN | apply bwD | refine bwS ?_ GE543.out | refine bwS ?_ GE544.out) | exact HB.out)) hb)
           clear BK543
           clear BK544
           clear HB
           have BK543 := n0_
           have BK544 := n1_
           have HB := n2_
           clear n0_ n1_ n2_
           (try clear hb)
           (try clear hb2)
           (try clear hk)
           (try clear hi)
           refine hK.out _ _ ⟨(bkC BK544.out 0).trans rfl, (bkC BK544.out 1).trans rfl, (bkC BK544.out 2).trans rfl, (bkC BK544.out 3).trans rfl⟩ (fun hHeld => ?_)
           clear hK K
           refine norm_ (a' := ?_) ?_ ?_
           rotate_left
           ·show Act.put _ (some 25) _ = _
            simp only [Act.put, List.setIfInBounds_toArray, List.set_cons_zero, List.set_cons_succ, i64_w, i32_w]
            rfl
           refine two_ (i := 5) (j := 9) (Ni := some 26) (Nj := some 6) #[true, true, true, true, true, true, false, false, false, false, false, false] #[true, true, true, true, true, false, false, false, false, true, false, false] rfl rfl rfl rfl (two_of HT_.out (by kernel_rfl)) (by decide) (by decide) (fun K hK => ?_) (fun K hK => ?_)
           ·skip
            refine goes_ Try.func88 (by kernel_rfl) rfl #[.agg #[.int .i64 x545000_1, .int .i64 x545001_1, .int .i64 x545002_1, .int .i64 x545003_1], .agg #[.int .i64 t545, .int .i64 t546, .int .i64 t547, .int .i64 t548]] (by rfl) rfl rfl (by (try simp only [List.map_toArray, List.map_cons, List.map_nil]); first | done | rfl | (simp only [List.length_drop, List.length_take]; rfl)) ?_
            with_reducible refine (spec_TimesMatrix.calls kj5 x545000_1 x545001_1 x545002_1 x545003_1 t545 t546 t547 t548 t549 t550 t551 t552 true _ A13.out).mono ?_
            rintro e w17 ⟨rfl, hb⟩
            refine ⟨_, rfl, ?_⟩
            have n0_ := Az.mk (bkB (g := gb543) (o := .cells #[.int .i64 x544000_1, .int .i64 x544001_1, .int .i64 x544002_1, .int .i64 x544003_1] 46 (0, 0)) (by (with_reducible repeat (first | refine bkN ?_ _ | refine bkD ?_ | refine bkA ?_ _)); exact BK543.out) hb)
            have n1_ := Az.mk (bkB (g := gb544) (o := .cells #[.int .i64 x545000_1, .int .i64 x545001_1, .int .i64 x545002_1, .int .i64 x545003_1] 46 (0, 0)) (by (with_reducible repeat (first | refine bkN ?_ _ | refine bkD ?_ | refine bkA ?_ _)); exact BK544.out) hb)
            have n2_ := Az.mk (bwT (by repeat (first | (with_reducible first | exact HB.out | apply bwA | apply pbN | apply bwD | refine bwS ?_ GE543.out | refine bwS ?_ GE544.out) | exact HB.out)) hb)
            clear BK543
            clear BK544
            clear HB
            have BK543 := n0_
            have BK544 := n1_
            have HB := n2_
            clear n0_ n1_ n2_
            (try clear hb)
            (try clear hb2)
            (try clear hk)
            (try clear hi)
            refine hK.out _ _ ⟨(bkC BK544.out 0).trans rfl, (bkC BK544.out 1).trans rfl, (bkC BK544.out 2).trans rfl, (bkC BK544.out 3).trans rfl⟩ (fun hHeld => ?_)
            clear hK K
            refine norm_ (a' := ?_) ?_ ?_
            rotate_left
            ·show Act.put _ (some 26) _ = _
             simp only [Act.put, List.setIfInBounds_toArray, List.set_cons_zero, List.set_cons_succ, i64_w, i32_w]
             rfl
            refine pure_ (i := 6) (N := some 20) (v := ?_) (a' := ?_) #[true, true, true, true, true, true, true, false, false, false, false, false] rfl rfl (any_of HT_.out (by kernel_rfl)) (fun _ _ _ h => h) (Or.inl ⟨by rfl, ?_⟩) ?_ ?_
            rotate_left
            ·intro w'
             go_simp
             with_reducible rfl
            rotate_left
            ·simp only [Act.put, List.setIfInBounds_toArray, List.set_cons_zero, List.set_cons_succ, i64_w, i32_w]
             rfl
            refine pure_ (i := 7) (N := some 27) (v := ?_) (a' := ?_) #[true, true, true, true, true, true, true, true, false, false, false, false] rfl rfl (any_of HT_.out (by kernel_rfl)) (fun _ _ _ h => h) (Or.inl ⟨by rfl, ?_⟩) ?_ ?_
            rotate_left
            ·intro w'
             go_simp
             with_reducible rfl
            rotate_left
            ·simp only [Act.put, List.setIfInBounds_toArray, List.set_cons_zero, List.set_cons_succ, i64_w, i32_w]
             rfl
            refine pure_ (i := 8) (N := some 28) (v := ?_) (a' := ?_) #[true, true, true, true, true, true, true, true, true, false, false, false] rfl rfl (any_of HT_.out (by kernel_rfl)) (fun _ _ _ h => h) (Or.inl ⟨by rfl, ?_⟩) ?_ ?_
            rotate_left
            ·intro w'
             go_simp
             with_reducible rfl
            rotate_left
            ·simp only [Act.put, List.setIfInBounds_toArray, List.set_cons_zero, List.set_cons_succ, i64_w, i32_w]
             rfl
            refine one_ (i := 9) (N := some 6) #[true, true, true, true, true, true, true, true, true, true, false, false] rfl rfl (one_of HT_.out (by kernel_rfl)) (by decide) (fun K hK => ?_)
            refine box_step ?hg (N := 6) ?hd (cs := #[.int .i64 0, .int .i64 0, .int .i64 0, .int .i64 0]) (t := 46) ?hr ?_; (case hd => rfl); (case hg => rfl); (case hr => first | (go_simp; done) | (go_simp; rfl))
            intro gb554 hg w18 hbox hb
            have n0_ := Az.mk (bkB (g := gb543) (o := .cells #[.int .i64 x544000_1, .int .i64 x544001_1, .int .i64 x544002_1, .int .i64 x544003_1] 46 (0, 0)) (by (with_reducible repeat (first | refine bkN ?_ _ | refine bkD ?_ | refine bkA ?_ _)); exact BK543.out) hb)
            have n1_ := Az.mk (bkB (g := gb544) (o := .cells #[.int .i64 x545000_1, .int .i64 x545001_1, .int .i64 x545002_1, .int .i64 x545003_1] 46 (0, 0)) (by (with_reducible repeat (first | refine bkN ?_ _ | refine bkD ?_ | refine bkA ?_ _)); exact BK544.out) hb)
            have n2_ := Az.mk (bwT (by repeat (first | (with_reducible first | exact HB.out | apply bwA | apply pbN | apply bwD | refine bwS ?_ GE543.out | refine bwS ?_ GE544.out) | exact HB.out)) hb)
            have n3_ := Az.mk (hbox)
            have n4_ := Az.mk ((by rw [hg]; exact (bwZ (by repeat (first | (with_reducible first | exact HB.out | apply bwA | apply pbN | apply bwD | refine bwS ?_ GE543.out | refine bwS ?_ GE544.out) | exact HB.out))) : w.heap.size ≤ gb554))
            have n5_ := Az.mk ((by rw [hg]; exact (bwZ (by repeat (first | (with_reducible first | exact HB.out | apply bwA | apply pbN | apply bwD | refine bwS ?_ GE543.out | refine bwS ?_ GE544.out) | exact HB.out))) : w.heap.size ≤ gb554))
            have n6_ := Az.mk ((by rw [hg]; exact Nat.ne_of_lt (blk_lt (g := gb543) (o := .cells #[.int .i64 x544000_1, .int .i64 x544001_1, .int .i64 x544002_1, .int .i64 x544003_1] 46 (0, 0)) (by (with_reducible repeat (first | refine bkN ?_ _ | refine bkD ?_ | refine bkA ?_ _)); exact BK543.out)) : gb543 ≠ gb554))
            have n7_ := Az.mk ((by rw [hg]; exact Nat.ne_of_gt (blk_lt (g := gb543) (o := .cells #[.int .i64 x544000_1, .int .i64 x544001_1, .int .i64 x544002_1, .int .i64 x544003_1] 46 (0, 0)) (by (with_reducible repeat (first | refine bkN ?_ _ | refine bkD ?_ | refine bkA ?_ _)); exact BK543.out)) : gb554 ≠ gb543))
            have n8_ := Az.mk ((by rw [hg]; exact Nat.ne_of_lt (blk_lt (g := gb544) (o := .cells #[.int .i64 x545000_1, .int .i64 x545001_1, .int .i64 x545002_1, .int .i64 x545003_1] 46 (0, 0)) (by (with_reducible repeat (first | refine bkN ?_ _ | refine bkD ?_ | refine bkA ?_ _)); exact BK544.out)) : gb544 ≠ gb554))
            have n9_ := Az.mk ((by rw [hg]; exact Nat.ne_of_gt (blk_lt (g := gb544) (o := .cells #[.int .i64 x545000_1, .int .i64 x545001_1, .int .i64 x545002_1, .int .i64 x545003_1] 46 (0, 0)) (by (with_reducible repeat (first | refine bkN ?_ _ | refine bkD ?_ | refine bkA ?_ _)); exact BK544.out)) : gb554 ≠ gb544))
            clear BK543
            clear BK544
            clear HB
            have BK543 := n0_
            have BK544 := n1_
            have HB := n2_
            have BK554 := n3_
            have GW554 := n4_
            have GE554 := n5_
            have NB543_554 := n6_
            have NB554_543 := n7_
            have NB544_554 := n8_
            have NB554_544 := n9_
            clear n0_ n1_ n2_ n3_ n4_ n5_ n6_ n7_ n8_ n9_
            clear hb hbox hg
            refine hK.out _ _ ⟨(bkC BK544.out 0).trans rfl, (bkC BK544.out 1).trans rfl, (bkC BK544.out 2).trans rfl, (bkC BK544.out 3).trans rfl⟩ (fun hHeld => ?_)
            clear hK K
            refine norm_ (a' := ?_) ?_ ?_
            rotate_left
            ·show Act.put _ (some 6) _ = _
             simp only [Act.put, List.setIfInBounds_toArray, List.set_cons_zero, List.set_cons_succ, i64_w, i32_w]
             rfl
            exact norm_ (by simp only [putAll, Act.put, List.setIfInBounds_toArray, List.set_cons_zero, List.set_cons_succ]) (hCont (gb554) _ ⟨hHeld, (by (with_reducible repeat (first | refine bkN ?_ _ | refine bkD ?_ | refine bkA ?_ _)); exact BK543.out), (by (with_reducible repeat (first | refine bkN ?_ _ | refine bkD ?_ | refine bkA ?_ _)); exact BK544.out), (by (with_reducible repeat (first | refine bkN ?_ _ | refine bkD ?_ | refine bkA ?_ _)); exact BK554.out), GW554.out, GE554.out, NB543_554.out, NB554_543.out, NB544_554.out, NB554_544.out, (by repeat (first | (with_reducible first | exact HB.out | apply bwA | apply pbN | apply bwD | refine bwS ?_ GE543.out | refine bwS ?_ GE544.out | refine bwS ?_ GE554.out) | exact HB.out))⟩)
           ·skip
            refine box_step ?hg (N := 6) ?hd (cs := #[.int .i64 0, .int .i64 0, .int .i64 0, .int .i64 0]) (t := 46) ?hr ?_; (case hd => rfl); (case hg => rfl); (case hr => first | (go_simp; done) | (go_simp; rfl))
            intro gb554 hg w17 hbox hb
            have n0_ := Az.mk (bkB (g := gb543) (o := .cells #[.int .i64 x544000_1, .int .i64 x544001_1, .int .i64 x544002_1, .int .i64 x544003_1] 46 (0, 0)) (by (with_reducible repeat (first | refine bkN ?_ _ | refine bkD ?_ | refine bkA ?_ _)); exact BK543.out) hb)
            have n1_ := Az.mk (bkB (g := gb544) (o := .cells #[.int .i64 x545000_1, .int .i64 x545001_1, .int .i64 x545002_1, .int .i64 x545003_1] 46 (0, 0)) (by (with_reducible repeat (first | refine bkN ?_ _ | refine bkD ?_ | refine bkA ?_ _)); exact BK544.out) hb)
            have n2_ := Az.mk (bwT (by repeat (first | (with_reducible first | exact HB.out | apply bwA | apply pbN | apply bwD | refine bwS ?_ GE543.out | refine bwS ?_ GE544.out) | exact HB.out)) hb)
            have n3_ := Az.mk (hbox)
            have n4_ := Az.mk ((by rw [hg]; exact (bwZ (by repeat (first | (with_reducible first | exact HB.out | apply bwA | apply pbN | apply bwD | refine bwS ?_ GE543.out | refine bwS ?_ GE544.out) | exact HB.out))) : w.heap.size ≤ gb554))
            have n5_ := Az.mk ((by rw [hg]; exact (bwZ (by repeat (first | (with_reducible first | exact HB.out | apply bwA | apply pbN | apply bwD | refine bwS ?_ GE543.out | refine bwS ?_ GE544.out) | exact HB.out))) : w.heap.size ≤ gb554))
            have n6_ := Az.mk ((by rw [hg]; exact Nat.ne_of_lt (blk_lt (g := gb543) (o := .cells #[.int .i64 x544000_1, .int .i64 x544001_1, .int .i64 x544002_1, .int .i64 x544003_1] 46 (0, 0)) (by (with_reducible repeat (first | refine bkN ?_ _ | refine bkD ?_ | refine bkA ?_ _)); exact BK543.out)) : gb543 ≠ gb554))
            have n7_ := Az.mk ((by rw [hg]; exact Nat.ne_of_gt (blk_lt (g := gb543) (o := .cells #[.int .i64 x544000_1, .int .i64 x544001_1, .int .i64 x544002_1, .int .i64 x544003_1] 46 (0, 0)) (by (with_reducible repeat (first | refine bkN ?_ _ | refine bkD ?_ | refine bkA ?_ _)); exact BK543.out)) : gb554 ≠ gb543))
            have n8_ := Az.mk ((by rw [hg]; exact Nat.ne_of_lt (blk_lt (g := gb544) (o := .cells #[.int .i64 x545000_1, .int .i64 x545001_1, .int .i64 x545002_1, .int .i64 x545003_1] 46 (0, 0)) (by (with_reducible repeat (first | refine bkN ?_ _ | refine bkD ?_ | refine bkA ?_ _)); exact BK544.out)) : gb544 ≠ gb554))
            have n9_ := Az.mk ((by rw [hg]; exact Nat.ne_of_gt (blk_lt (g := gb544) (o := .cells #[.int .i64 x545000_1, .int .i64 x545001_1, .int .i64 x545002_1, .int .i64 x545003_1] 46 (0, 0)) (by (with_reducible repeat (first | refine bkN ?_ _ | refine bkD ?_ | refine bkA ?_ _)); exact BK544.out)) : gb554 ≠ gb544))
            clear BK543
            clear BK544
            clear HB
            have BK543 := n0_
            have BK544 := n1_
            have HB := n2_
            have BK554 := n3_
            have GW554 := n4_
            have GE554 := n5_
            have NB543_554 := n6_
            have NB554_543 := n7_
            have NB544_554 := n8_
            have NB554_544 := n9_
            clear n0_ n1_ n2_ n3_ n4_ n5_ n6_ n7_ n8_ n9_
            clear hb hbox hg
            refine hK.out _ _ ⟨(bkC BK544.out 0).trans rfl, (bkC BK544.out 1).trans rfl, (bkC BK544.out 2).trans rfl, (bkC BK544.out 3).trans rfl⟩ (fun hHeld => ?_)
            clear hK K
            refine norm_ (a' := ?_) ?_ ?_
            rotate_left
            ·show Act.put _ (some 6) _ = _
             simp only [Act.put, List.setIfInBounds_toArray, List.set_cons_zero, List.set_cons_succ, i64_w, i32_w]
             rfl
            refine one_ (i := 5) (N := some 26) #[true, true, true, true, true, true, false, false, false, true, false, false] rfl rfl (one_of HT_.out (by kernel_rfl)) (by decide) (fun K hK => ?_)
            refine goes_ Try.func88 (by kernel_rfl) rfl #[.agg #[.int .i64 x545000_1, .int .i64 x545001_1, .int .i64 x545002_1, .int .i64 x545003_1], .agg #[.int .i64 t545, .int .i64 t546, .int .i64 t547, .int .i64 t548]] (by rfl) rfl rfl (by (try simp only [List.map_toArray, List.map_cons, List.map_nil]); first | done | rfl | (simp only [List.length_drop, List.length_take]; rfl)) ?_
            with_reducible refine (spec_TimesMatrix.calls kj5 x545000_1 x545001_1 x545002_1 x545003_1 t545 t546 t547 t548 t549 t550 t551 t552 true _ A13.out).mono ?_
            rintro e w18 ⟨rfl, hb⟩
            refine ⟨_, rfl, ?_⟩
            have n0_ := Az.mk (bkB (g := gb543) (o := .cells #[.int .i64 x544000_1, .int .i64 x544001_1, .int .i64 x544002_1, .int .i64 x544003_1] 46 (0, 0)) (by (with_reducible repeat (first | refine bkN ?_ _ | refine bkD ?_ | refine bkA ?_ _)); exact BK543.out) hb)
            have n1_ := Az.mk (bkB (g := gb544) (o := .cells #[.int .i64 x545000_1, .int .i64 x545001_1, .int .i64 x545002_1, .int .i64 x545003_1] 46 (0, 0)) (by (with_reducible repeat (first | refine bkN ?_ _ | refine bkD ?_ | refine bkA ?_ _)); exact BK544.out) hb)
            have n2_ := Az.mk (bkB (g := gb554) (o := .cells #[.int .i64 0, .int .i64 0, .int .i64 0, .int .i64 0] 46 (0, 0)) (by (with_reducible repeat (first | refine bkN ?_ _ | refine bkD ?_ | refine bkA ?_ _)); exact BK554.out) hb)
            have n3_ := Az.mk (bwT (by repeat (first | (with_reducible first | exact HB.out | apply bwA | apply pbN | apply bwD | refine bwS ?_ GE543.out | refine bwS ?_ GE544.out | refine bwS ?_ GE554.out) | exact HB.out)) hb)
            clear BK543
            clear BK544
            clear BK554
            clear HB
            have BK543 := n0_
            have BK544 := n1_
            have BK554 := n2_
            have HB := n3_
            clear n0_ n1_ n2_ n3_
            (try clear hb)
            (try clear hb2)
            (try clear hk)
            (try clear hi)
            refine hK.out _ _ ⟨(bkC BK544.out 0).trans rfl, (bkC BK544.out 1).trans rfl, (bkC BK544.out 2).trans rfl, (bkC BK544.out 3).trans rfl⟩ (fun hHeld => ?_)
            clear hK K
            refine norm_ (a' := ?_) ?_ ?_
            rotate_left
            ·show Act.put _ (some 26) _ = _
             simp only [Act.put, List.setIfInBounds_toArray, List.set_cons_zero, List.set_cons_succ, i64_w, i32_w]
             rfl
            refine pure_ (i := 6) (N := some 20) (v := ?_) (a' := ?_) #[true, true, true, true, true, true, true, false, false, true, false, false] rfl rfl (any_of HT_.out (by kernel_rfl)) (fun _ _ _ h => h) (Or.inl ⟨by rfl, ?_⟩) ?_ ?_
            rotate_left
            ·intro w'
             go_simp
             with_reducible rfl
            rotate_left
            ·simp only [Act.put, List.setIfInBounds_toArray, List.set_cons_zero, List.set_cons_succ, i64_w, i32_w]
             rfl
            refine pure_ (i := 7) (N := some 27) (v := ?_) (a' := ?_) #[true, true, true, true, true, true, true, true, false, true, false, false] rfl rfl (any_of HT_.out (by kernel_rfl)) (fun _ _ _ h => h) (Or.inl ⟨by rfl, ?_⟩) ?_ ?_
            rotate_left
            ·intro w'
             go_simp
             with_reducible rfl
            rotate_left
            ·simp only [Act.put, List.setIfInBounds_toArray, List.set_cons_zero, List.set_cons_succ, i64_w, i32_w]
             rfl
            refine pure_ (i := 8) (N := some 28) (v := ?_) (a' := ?_) #[true, true, true, true, true, true, true, true, true, true, false, false] rfl rfl (any_of HT_.out (by kernel_rfl)) (fun _ _ _ h => h) (Or.inl ⟨by rfl, ?_⟩) ?_ ?_
            rotate_left
            ·intro w'
             go_simp
             with_reducible rfl
            rotate_left
            ·simp only [Act.put, List.setIfInBounds_toArray, List.set_cons_zero, List.set_cons_succ, i64_w, i32_w]
             rfl
            exact norm_ (by simp only [putAll, Act.put, List.setIfInBounds_toArray, List.set_cons_zero, List.set_cons_succ]) (hCont (gb554) _ ⟨hHeld, (by (with_reducible repeat (first | refine bkN ?_ _ | refine bkD ?_ | refine bkA ?_ _)); exact BK543.out), (by (with_reducible repeat (first | refine bkN ?_ _ | refine bkD ?_ | refine bkA ?_ _)); exact BK544.out), (by (with_reducible repeat (first | refine bkN ?_ _ | refine bkD ?_ | refine bkA ?_ _)); exact BK554.out), GW554.out, GE554.out, NB543_554.out, NB554_543.out, NB544_554.out, NB554_544.out, (by repeat (first | (with_reducible first | exact HB.out | apply bwA | apply pbN | apply bwD | refine bwS ?_ GE543.out | refine bwS ?_ GE544.out | refine bwS ?_ GE554.out) | exact HB.out))⟩)
          ·skip
           refine box_step ?hg (N := 6) ?hd (cs := #[.int .i64 0, .int .i64 0, .int .i64 0, .int .i64 0]) (t := 46) ?hr ?_; (case hd => rfl); (case hg => rfl); (case hr => first | (go_simp; done) | (go_simp; rfl))
           intro gb554 hg w16 hbox hb
           have n0_ := Az.mk (bkB (g := gb543) (o := .cells #[.int .i64 x544000_1, .int .i64 x544001_1, .int .i64 x544002_1, .int .i64 x544003_1] 46 (0, 0)) (by (with_reducible repeat (first | refine bkN ?_ _ | refine bkD ?_ | refine bkA ?_ _)); exact BK543.out) hb)
           have n1_ := Az.mk (bkB (g := gb544) (o := .cells #[.int .i64 x545000_1, .int .i64 x545001_1, .int .i64 x545002_1, .int .i64 x545003_1] 46 (0, 0)) (by (with_reducible repeat (first | refine bkN ?_ _ | refine bkD ?_ | refine bkA ?_ _)); exact BK544.out) hb)
           have n2_ := Az.mk (bwT (by repeat (first | (with_reducible first | exact HB.out | apply bwA | apply pbN | apply bwD | refine bwS ?_ GE543.out | refine bwS ?_ GE544.out) | exact HB.out)) hb)
           have n3_ := Az.mk (hbox)
           have n4_ := Az.mk ((by rw [hg]; exact (bwZ (by repeat (first | (with_reducible first | exact HB.out | apply bwA | apply pbN | apply bwD | refine bwS ?_ GE543.out | refine bwS ?_ GE544.out) | exact HB.out))) : w.heap.size ≤ gb554))
           have n5_ := Az.mk ((by rw [hg]; exact (bwZ (by repeat (first | (with_reducible first | exact HB.out | apply bwA | apply pbN | apply bwD | refine bwS ?_ GE543.out | refine bwS ?_ GE544.out) | exact HB.out))) : w.heap.size ≤ gb554))
           have n6_ := Az.mk ((by rw [hg]; exact Nat.ne_of_lt (blk_lt (g := gb543) (o := .cells #[.int .i64 x544000_1, .int .i64 x544001_1, .int .i64 x544002_1, .int .i64 x544003_1] 46 (0, 0)) (by (with_reducible repeat (first | refine bkN ?_ _ | refine bkD ?_ | refine bkA ?_ _)); exact BK543.out)) : gb543 ≠ gb554))
           have n7_ := Az.mk ((by rw [hg]; exact Nat.ne_of_gt (blk_lt (g := gb543) (o := .cells #[.int .i64 x544000_1, .int .i64 x544001_1, .int .i64 x544002_1, .int .i64 x544003_1] 46 (0, 0)) (by (with_reducible repeat (first | refine bkN ?_ _ | refine bkD ?_ | refine bkA ?_ _)); exact BK543.out)) : gb554 ≠ gb543))
           have n8_ := Az.mk ((by rw [hg]; exact Nat.ne_of_lt (blk_lt (g := gb544) (o := .cells #[.int .i64 x545000_1, .int .i64 x545001_1, .int .i64 x545002_1, .int .i64 x545003_1] 46 (0, 0)) (by (with_reducible repeat (first | refine bkN ?_ _ | refine bkD ?_ | refine bkA ?_ _)); exact BK544.out)) : gb544 ≠ gb554))
           have n9_ := Az.mk ((by rw [hg]; exact Nat.ne_of_gt (blk_lt (g := gb544) (o := .cells #[.int .i64 x545000_1, .int .i64 x545001_1, .int .i64 x545002_1, .int .i64 x545003_1] 46 (0, 0)) (by (with_reducible repeat (first | refine bkN ?_ _ | refine bkD ?_ | refine bkA ?_ _)); exact BK544.out)) : gb554 ≠ gb544))
           clear BK543
           clear BK544
           clear HB
           have BK543 := n0_
           have BK544 := n1_
           have HB := n2_
           have BK554 := n3_
           have GW554 := n4_
           have GE554 := n5_
           have NB543_554 := n6_
           have NB554_543 := n7_
           have NB544_554 := n8_
           have NB554_544 := n9_
           clear n0_ n1_ n2_ n3_ n4_ n5_ n6_ n7_ n8_ n9_
           clear hb hbox hg
           refine hK.out _ _ ⟨(bkC BK544.out 0).trans rfl, (bkC BK544.out 1).trans rfl, (bkC BK544.out 2).trans rfl, (bkC BK544.out 3).trans rfl⟩ (fun hHeld => ?_)
           clear hK K
           refine norm_ (a' := ?_) ?_ ?_
           rotate_left
           ·show Act.put _ (some 6) _ = _
            simp only [Act.put, List.setIfInBounds_toArray, List.set_cons_zero, List.set_cons_succ, i64_w, i32_w]
            rfl
           refine one_ (i := 4) (N := some 25) #[true, true, true, true, true, false, false, false, false, true, false, false] rfl rfl (one_of HT_.out (by kernel_rfl)) (by decide) (fun K hK => ?_)
           refine goes_ Try.func89 (by kernel_rfl) rfl #[.int .u8 (bt a0 x5_1)] (by rfl) rfl rfl (by (try simp only [List.map_toArray, List.map_cons, List.map_nil]); first | done | rfl | (simp only [List.length_drop, List.length_take]; rfl)) ?_
           with_reducible refine (spec_l13Turn.calls (bt a0 x5_1) t545 t546 t547 t548 _ A12.out).mono ?_
           rintro e w17 ⟨rfl, hb⟩
           refine ⟨_, rfl, ?_⟩
           have n0_ := Az.mk (bkB (g := gb543) (o := .cells #[.int .i64 x544000_1, .int .i64 x544001_1, .int .i64 x544002_1, .int .i64 x544003_1] 46 (0, 0)) (by (with_reducible repeat (first | refine bkN ?_ _ | refine bkD ?_ | refine bkA ?_ _)); exact BK543.out) hb)
           have n1_ := Az.mk (bkB (g := gb544) (o := .cells #[.int .i64 x545000_1, .int .i64 x545001_1, .int .i64 x545002_1, .int .i64 x545003_1] 46 (0, 0)) (by (with_reducible repeat (first | refine bkN ?_ _ | refine bkD ?_ | refine bkA ?_ _)); exact BK544.out) hb)
           have n2_ := Az.mk (bkB (g := gb554) (o := .cells #[.int .i64 0, .int .i64 0, .int .i64 0, .int .i64 0] 46 (0, 0)) (by (with_reducible repeat (first | refine bkN ?_ _ | refine bkD ?_ | refine bkA ?_ _)); exact BK554.out) hb)
           have n3_ := Az.mk (bwT (by repeat (first | (with_reducible first | exact HB.out | apply bwA | apply pbN | apply bwD | refine bwS ?_ GE543.out | refine bwS ?_ GE544.out | refine bwS ?_ GE554.out) | exact HB.out)) hb)
           clear BK543
           clear BK544
           clear BK554
           clear HB
           have BK543 := n0_
           have BK544 := n1_
           have BK554 := n2_
           have HB := n3_
           clear n0_ n1_ n2_ n3_
           (try clear hb)
           (try clear hb2)
           (try clear hk)
           (try clear hi)
           refine hK.out _ _ ⟨(bkC BK544.out 0).trans rfl, (bkC BK544.out 1).trans rfl, (bkC BK544.out 2).trans rfl, (bkC BK544.out 3).trans rfl⟩ (fun hHeld => ?_)
           clear hK K
           refine norm_ (a' := ?_) ?_ ?_
           rotate_left
           ·show Act.put _ (some 25) _ = _
            simp only [Act.put, List.setIfInBounds_toArray, List.set_cons_zero, List.set_cons_succ, i64_w, i32_w]
            rfl
           refine one_ (i := 5) (N := some 26) #[true, true, true, true, true, true, false, false, false, true, false, false] rfl rfl (one_of HT_.out (by kernel_rfl)) (by decide) (fun K hK => ?_)
           refine goes_ Try.func88 (by kernel_rfl) rfl #[.agg #[.int .i64 x545000_1, .int .i64 x545001_1, .int .i64 x545002_1, .int .i64 x545003_1], .agg #[.int .i64 t545, .int .i64 t546, .int .i64 t547, .int .i64 t548]] (by rfl) rfl rfl (by (try simp only [List.map_toArray, List.map_cons, List.map_nil]); first | done | rfl | (simp only [List.length_drop, List.length_take]; rfl)) ?_
           with_reducible refine (spec_TimesMatrix.calls kj5 x545000_1 x545001_1 x545002_1 x545003_1 t545 t546 t547 t548 t549 t550 t551 t552 true _ A13.out).mono ?_
           rintro e w18 ⟨rfl, hb⟩
           refine ⟨_, rfl, ?_⟩
           have n0_ := Az.mk (bkB (g := gb543) (o := .cells #[.int .i64 x544000_1, .int .i64 x544001_1, .int .i64 x544002_1, .int .i64 x544003_1] 46 (0, 0)) (by (with_reducible repeat (first | refine bkN ?_ _ | refine bkD ?_ | refine bkA ?_ _)); exact BK543.out) hb)
           have n1_ := Az.mk (bkB (g := gb544) (o := .cells #[.int .i64 x545000_1, .int .i64 x545001_1, .int .i64 x545002_1, .int .i64 x545003_1] 46 (0, 0)) (by (with_reducible repeat (first | refine bkN ?_ _ | refine bkD ?_ | refine bkA ?_ _)); exact BK544.out) hb)
           have n2_ := Az.mk (bkB (g := gb554) (o := .cells #[.int .i64 0, .int .i64 0, .int .i64 0, .int .i64 0] 46 (0, 0)) (by (with_reducible repeat (first | refine bkN ?_ _ | refine bkD ?_ | refine bkA ?_ _)); exact BK554.out) hb)
           have n3_ := Az.mk (bwT (by repeat (first | (with_reducible first | exact HB.out | apply bwA | apply pbN | apply bwD | refine bwS ?_ GE543.out | refine bwS ?_ GE544.out | refine bwS ?_ GE554.out) | exact HB.out)) hb)
           clear BK543
           clear BK544
           clear BK554
           clear HB
           have BK543 := n0_
           have BK544 := n1_
           have BK554 := n2_
           have HB := n3_
           clear n0_ n1_ n2_ n3_
           (try clear hb)
           (try clear hb2)
           (try clear hk)
           (try clear hi)
           refine hK.out _ _ ⟨(bkC BK544.out 0).trans rfl, (bkC BK544.out 1).trans rfl, (bkC BK544.out 2).trans rfl, (bkC BK544.out 3).trans rfl⟩ (fun hHeld => ?_)
           clear hK K
           refine norm_ (a' := ?_) ?_ ?_
           rotate_left
           ·show Act.put _ (some 26) _ = _
            simp only [Act.put, List.setIfInBounds_toArray, List.set_cons_zero, List.set_cons_succ, i64_w, i32_w]
            rfl
           refine pure_ (i := 6) (N := some 20) (v := ?_) (a' := ?_) #[true, true, true, true, true, true, true, false, false, true, false, false] rfl rfl (any_of HT_.out (by kernel_rfl)) (fun _ _ _ h => h) (Or.inl ⟨by rfl, ?_⟩) ?_ ?_
           rotate_left
           ·intro w'
            go_simp
            with_reducible rfl
           rotate_left
           ·simp only [Act.put, List.setIfInBounds_toArray, List.set_cons_zero, List.set_cons_succ, i64_w, i32_w]
            rfl
           refine pure_ (i := 7) (N := some 27) (v := ?_) (a' := ?_) #[true, true, true, true, true, true, true, true, false, true, false, false] rfl rfl (any_of HT_.out (by kernel_rfl)) (fun _ _ _ h => h) (Or.inl ⟨by rfl, ?_⟩) ?_ ?_
           rotate_left
           ·intro w'
            go_simp
            with_reducible rfl
           rotate_left
           ·simp only [Act.put, List.setIfInBounds_toArray, List.set_cons_zero, List.set_cons_succ, i64_w, i32_w]
            rfl
           refine pure_ (i := 8) (N := some 28) (v := ?_) (a' := ?_) #[true, true, true, true, true, true, true, true, true, true, false, false] rfl rfl (any_of HT_.out (by kernel_rfl)) (fun _ _ _ h => h) (Or.inl ⟨by rfl, ?_⟩) ?_ ?_
           rotate_left
           ·intro w'
            go_simp
            with_reducible rfl
           rotate_left
           ·simp only [Act.put, List.setIfInBounds_toArray, List.set_cons_zero, List.set_cons_succ, i64_w, i32_w]
            rfl
           exact norm_ (by simp only [putAll, Act.put, List.setIfInBounds_toArray, List.set_cons_zero, List.set_cons_succ]) (hCont (gb554) _ ⟨hHeld, (by (with_reducible repeat (first | refine bkN ?_ _ | refine bkD ?_ | refine bkA ?_ _)); exact BK543.out), (by (with_reducible repeat (first | refine bkN ?_ _ | refine bkD ?_ | refine bkA ?_ _)); exact BK544.out), (by (with_reducible repeat (first | refine bkN ?_ _ | refine bkD ?_ | refine bkA ?_ _)); exact BK554.out), GW554.out, GE554.out, NB543_554.out, NB554_543.out, NB544_554.out, NB554_544.out, (by repeat (first | (with_reducible first | exact HB.out | apply bwA | apply pbN | apply bwD | refine bwS ?_ GE543.out | refine bwS ?_ GE544.out | refine bwS ?_ GE554.out) | exact HB.out))⟩)
         rintro gb554 w19 ⟨hS_, h0_, h1_, h2_, h3_, h4_, h5_, h6_, h7_, h8_, h9_⟩
         have n0_ : Az (w19.heap[gb543]? = some (.cells #[.int .i64 x544000_1, .int .i64 x544001_1, .int .i64 x544002_1, .int .i64 x544003_1] 46 (0, 0))) := ⟨h0_⟩
         have n1_ : Az (w19.heap[gb544]? = some (.cells #[.int .i64 x545000_1, .int .i64 x545001_1, .int .i64 x545002_1, .int .i64 x545003_1] 46 (0, 0))) := ⟨h1_⟩
         have n2_ : Az (w19.heap[gb554]? = some (.cells #[.int .i64 0, .int .i64 0, .int .i64 0, .int .i64 0] 46 (0, 0))) := ⟨h2_⟩
         have n3_ : Az (w.heap.size ≤ gb554) := ⟨h3_⟩
         have n4_ : Az (w.heap.size ≤ gb554) := ⟨h4_⟩
         have n5_ : Az (gb543 ≠ gb554) := ⟨h5_⟩
         have n6_ : Az (gb554 ≠ gb543) := ⟨h6_⟩
         have n7_ : Az (gb544 ≠ gb554) := ⟨h7_⟩
         have n8_ : Az (gb554 ≠ gb544) := ⟨h8_⟩
         have n9_ : Az (Below w.heap.size w w19) := ⟨h9_⟩
         clear BK543
         clear BK544
         clear HB
         clear h0_ h1_ h2_ h3_ h4_ h5_ h6_ h7_ h8_ h9_
         have BK543 := n0_
         have BK544 := n1_
         have BK554 := n2_
         have GW554 := n3_
         have GE554 := n4_
         have NB543_554 := n5_
         have NB554_543 := n6_
         have NB544_554 := n7_
         have NB554_544 := n8_
         have HB := n9_
         clear n0_ n1_ n2_ n3_ n4_ n5_ n6_ n7_ n8_ n9_
         have hHeld : w19.cell? ⟨gb544, 0, none⟩ = some (.int .i64 x545000_1) ∧ w19.cell? ⟨gb544, 1, none⟩ = some (.int .i64 x545001_1) ∧ w19.cell? ⟨gb544, 2, none⟩ = some (.int .i64 x545002_1) ∧ w19.cell? ⟨gb544, 3, none⟩ = some (.int .i64 x545003_1) := hS_
         refine norm_ (a' := ?_) ?_ ?_
         rotate_left
         ·simp only [putAll, Act.put, List.setIfInBounds_toArray, List.set_cons_zero, List.set_cons_succ]
          rfl
         refine one_ (i := 10) (N := none) #[true, true, true, true, true, true, true, true, true, true, true, false] rfl rfl (one_of HT_.out (by kernel_rfl)) (by decide) (fun K hK => ?_)
         have hs20 : w19.cell? ⟨gb554, 0, none⟩ = some (.int .i64 0) := (bkC BK554.out 0).trans rfl
         have hfs20 := bkF BK554.out 0
         have hns20_0 := NB543_554.out
         have hns20_1 := NB544_554.out
         have hms20_0 := NB554_543.out
         have hms20_1 := NB554_544.out
         have hs21 : w19.cell? ⟨gb554, 1, none⟩ = some (.int .i64 0) := (bkC BK554.out 1).trans rfl
         have hfs21 := bkF BK554.out 1
         have hns21_0 := NB543_554.out
         have hns21_1 := NB544_554.out
         have hms21_0 := NB554_543.out
         have hms21_1 := NB554_544.out
         have hs22 : w19.cell? ⟨gb554, 2, none⟩ = some (.int .i64 0) := (bkC BK554.out 2).trans rfl
         have hfs22 := bkF BK554.out 2
         have hns22_0 := NB543_554.out
         have hns22_1 := NB544_554.out
         have hms22_0 := NB554_543.out
         have hms22_1 := NB554_544.out
         have hs23 : w19.cell? ⟨gb554, 3, none⟩ = some (.int .i64 0) := (bkC BK554.out 3).trans rfl
         have hfs23 := bkF BK554.out 3
         have hns23_0 := NB543_554.out
         have hns23_1 := NB544_554.out
         have hms23_0 := NB554_543.out
         have hms23_1 := NB554_544.out
         refine skip_ (w1 := ?_) (by rfl) rfl ?_ ?_
         rotate_left
         ·go_simp
          rfl
         refine hK.out _ _ ⟨((cell_far (p := ⟨gb554, _, none⟩) NB544_554.out _).trans (((cell_far (p := ⟨gb554, _, none⟩) NB544_554.out _).trans (((cell_far (p := ⟨gb554, _, none⟩) NB544_554.out _).trans (((cell_far (p := ⟨gb554, _, none⟩) NB544_554.out _).trans (hHeld.1)))))))), ((cell_far (p := ⟨gb554, _, none⟩) NB544_554.out _).trans (((cell_far (p := ⟨gb554, _, none⟩) NB544_554.out _).trans (((cell_far (p := ⟨gb554, _, none⟩) NB544_554.out _).trans (((cell_far (p := ⟨gb554, _, none⟩) NB544_554.out _).trans (hHeld.2.1)))))))), ((cell_far (p := ⟨gb554, _, none⟩) NB544_554.out _).trans (((cell_far (p := ⟨gb554, _, none⟩) NB544_554.out _).trans (((cell_far (p := ⟨gb554, _, none⟩) NB544_554.out _).trans (((cell_far (p := ⟨gb554, _, none⟩) NB544_554.out _).trans (hHeld.2.2.1)))))))), ((cell_far (p := ⟨gb554, _, none⟩) NB544_554.out _).trans (((cell_far (p := ⟨gb554, _, none⟩) NB544_554.out _).trans (((cell_far (p := ⟨gb554, _, none⟩) NB544_554.out _).trans (((cell_far (p := ⟨gb554, _, none⟩) NB544_554.out _).trans (hHeld.2.2.2))))))))⟩ (fun hHeld => ?_)
         clear hK K
         refine pure_ (i := 11) (N := some 7) (v := ?_) (a' := ?_) #[true, true, true, true, true, true, true, true, true, true, true, true] rfl rfl (any_of HT_.out (by kernel_rfl)) (fun _ _ _ h => h) (Or.inl ⟨by rfl, ?_⟩) ?_ ?_
         rotate_left
         ·intro w'
          go_simp
          with_reducible rfl
         rotate_left
         ·simp only [Act.put, List.setIfInBounds_toArray, List.set_cons_zero, List.set_cons_succ, i64_w, i32_w]
          rfl
         refine done_ (done_of HT_.out (by kernel_rfl)) ?_
         have hnb24 := NB554_543.out
         have hnc24 := NB543_554.out
         have hnb25 := NB554_544.out
         have hnc25 := NB544_554.out
         have hcz26_0 : w19.cell? ⟨gb554, 0, none⟩ = some (.int .i64 0) := (bkC BK554.out 0).trans rfl
         have hcz26_1 : w19.cell? ⟨gb554, 1, none⟩ = some (.int .i64 0) := (bkC BK554.out 1).trans rfl
         have hcz26_2 : w19.cell? ⟨gb554, 2, none⟩ = some (.int .i64 0) := (bkC BK554.out 2).trans rfl
         have hcz26_3 : w19.cell? ⟨gb554, 3, none⟩ = some (.int .i64 0) := (bkC BK554.out 3).trans rfl
         have hfz26_0 := bkF BK554.out 0
         have hfz26_1 := bkF BK554.out 1
         have hfz26_2 := bkF BK554.out 2
         have hfz26_3 := bkF BK554.out 3
         have hnb27 := NB544_543.out
         have hnc27 := NB543_544.out
         have hcz28_0 : w19.cell? ⟨gb544, 0, none⟩ = some (.int .i64 x545000_1) := (bkC BK544.out 0).trans rfl
         have hcz28_1 : w19.cell? ⟨gb544, 1, none⟩ = some (.int .i64 x545001_1) := (bkC BK544.out 1).trans rfl
         have hcz28_2 : w19.cell? ⟨gb544, 2, none⟩ = some (.int .i64 x545002_1) := (bkC BK544.out 2).trans rfl
         have hcz28_3 : w19.cell? ⟨gb544, 3, none⟩ = some (.int .i64 x545003_1) := (bkC BK544.out 3).trans rfl
         have hfz28_0 := bkF BK544.out 0
         have hfz28_1 := bkF BK544.out 1
         have hfz28_2 := bkF BK544.out 2
         have hfz28_3 := bkF BK544.out 3
         try go_wp2
         go_roundg kj5
         case measure => have := HK1.out; have := HJ5.out; omega
         case rel => exact ⟨(wrap64 (x5_1 + 1)), (x544000_1), (x544001_1), (x544002_1), (x544003_1), (t549), (t550), (t551), (t552), (by first | rfl | (simp; done) | (simp [*]; done)), H', ⟨by have := HK1.out; have := HJ5.out; omega⟩, ⟨by (with_reducible repeat (first | refine bkN ?_ _ | refine bkD ?_ | refine bkA ?_ _)); refine bkf ?_ NB543_544.out _; (with_reducible repeat (first | refine bkN ?_ _ | refine bkD ?_ | refine bkA ?_ _)); refine bkf ?_ NB543_544.out _; (with_reducible repeat (first | refine bkN ?_ _ | refine bkD ?_ | refine bkA ?_ _)); refine bkf ?_ NB543_544.out _; (with_reducible repeat (first | refine bkN ?_ _ | refine bkD ?_ | refine bkA ?_ _)); refine bkf ?_ NB543_544.out _; (with_reducible repeat (first | refine bkN ?_ _ | refine bkD ?_ | refine bkA ?_ _)); refine bkf ?_ NB543_554.out _; (with_reducible repeat (first | refine bkN ?_ _ | refine bkD ?_ | refine bkA ?_ _)); refine bkf ?_ NB543_554.out _; (with_reducible repeat (first | refine bkN ?_ _ | refine bkD ?_ | refine bkA ?_ _)); refine bkf ?_ NB543_554.out _; (with_reducible repeat (first | refine bkN ?_ _ | refine bkD ?_ | refine bkA ?_ _)); refine bkf ?_ NB543_554.out _; (with_reducible repeat (first | refine bkN ?_ _ | refine bkD ?_ | refine bkA ?_ _)); exact BK543.out⟩, ⟨by (with_reducible repeat (first | refine bkN ?_ _ | refine bkD ?_ | refine bkA ?_ _)); refine bkp (cs := #[.int .i64 t549, .int .i64 t550, .int .i64 t551, .int .i64 x545003_1]) ?_ 3 _ rfl; (with_reducible repeat (first | refine bkN ?_ _ | refine bkD ?_ | refine bkA ?_ _)); refine bkp (cs := #[.int .i64 t549, .int .i64 t550, .int .i64 x545002_1, .int .i64 x545003_1]) ?_ 2 _ rfl; (with_reducible repeat (first | refine bkN ?_ _ | refine bkD ?_ | refine bkA ?_ _)); refine bkp (cs := #[.int .i64 t549, .int .i64 x545001_1, .int .i64 x545002_1, .int .i64 x545003_1]) ?_ 1 _ rfl; (with_reducible repeat (first | refine bkN ?_ _ | refine bkD ?_ | refine bkA ?_ _)); refine bkp (cs := #[.int .i64 x545000_1, .int .i64 x545001_1, .int .i64 x545002_1, .int .i64 x545003_1]) ?_ 0 _ rfl; (with_reducible repeat (first | refine bkN ?_ _ | refine bkD ?_ | refine bkA ?_ _)); refine bkf ?_ NB544_554.out _; (with_reducible repeat (first | refine bkN ?_ _ | refine bkD ?_ | refine bkA ?_ _)); refine bkf ?_ NB544_554.out _; (with_reducible repeat (first | refine bkN ?_ _ | refine bkD ?_ | refine bkA ?_ _)); refine bkf ?_ NB544_554.out _; (with_reducible repeat (first | refine bkN ?_ _ | refine bkD ?_ | refine bkA ?_ _)); refine bkf ?_ NB544_554.out _; (with_reducible repeat (first | refine bkN ?_ _ | refine bkD ?_ | refine bkA ?_ _)); exact BK544.out⟩, ⟨by repeat (first | (with_reducible first | exact HB.out | apply bwA | apply pbN | apply bwD | refine bwS ?_ GE543.out | refine bwS ?_ GE544.out | refine bwS ?_ GE554.out) | exact HB.out)⟩⟩
        ·replace c14 := Bool.eq_false_iff.mpr c14
         subst c14
         have H1 : (some (0, 0, 0, 0, false)) = some (r1, r2, r3, r4, r5) := by rw [if_neg (show ¬ (false = true) by decide)] at H; exact H
         clear H
         have H := H1
         clear H1
         simp only [Option.some.injEq, Prod.mk.injEq] at H
         obtain ⟨rfl, rfl, rfl, rfl, rfl⟩ := H
         try go_wp2
         have n0_ := Az.mk (bkD BK543.out)
         have n1_ := Az.mk (bkD BK544.out)
         have n2_ := Az.mk (bwD HB.out)
         clear BK543
         clear BK544
         clear HB
         have BK543 := n0_
         have BK544 := n1_
         have HB := n2_
         clear n0_ n1_ n2_
         have p11 : 0 ≤ (x5_1 : Int) := of_decide_eq_true (by first | (with_reducible assumption) | assumption)
         have q11 : x5_1 < (a0.size : Int) := of_decide_eq_true (by first | (with_reducible assumption) | assumption)
         have hx11 := bt_at a0 x5_1
         replace p11 := eq_true p11
         replace q11 := eq_true q11
         refine start_ (n := 12) (S := fun w' => w'.cell? ⟨gb544, 0, none⟩ = some (.int .i64 x545000_1) ∧ w'.cell? ⟨gb544, 1, none⟩ = some (.int .i64 x545001_1) ∧ w'.cell? ⟨gb544, 2, none⟩ = some (.int .i64 x545002_1) ∧ w'.cell? ⟨gb544, 3, none⟩ = some (.int .i64 x545003_1)) (ds := []) #[false, false, false, false, false, false, false, false, false, false, false, false] (by kernel_rfl) rfl rfl ⟨(bkC BK544.out 0).trans rfl, (bkC BK544.out 1).trans rfl, (bkC BK544.out 2).trans rfl, (bkC BK544.out 3).trans rfl⟩ (fun hHeld => ?_); refine with_tabW spec_TurnsOf.tab5 spec_TurnsOf.bits5 (fun HT_ HW_ => ?_)
         generalize wc.drew = w29 at BK543 BK544 HB hHeld ⊢
         refine pure_ (i := 1) (N := some 22) (v := ?_) (a' := ?_) #[false, true, false, false, false, false, false, false, false, false, false, false] rfl rfl (any_of HT_.out (by kernel_rfl)) (fun _ _ _ h => h) (Or.inl ⟨by rfl, ?_⟩) ?_ ?_
         rotate_left
         ·intro w'
          go_simp
          with_reducible rfl
         rotate_left
         ·simp only [Act.put, List.setIfInBounds_toArray, List.set_cons_zero, List.set_cons_succ, i64_w, i32_w]
          rfl
         refine pure_ (i := 2) (N := some 23) (v := ?_) (a' := ?_) #[false, true, true, false, false, false, false, false, false, false, false, false] rfl rfl (any_of HT_.out (by kernel_rfl)) (fun _ _ _ h => h) (Or.inl ⟨by rfl, ?_⟩) ?_ ?_
         rotate_left
         ·intro w'
          go_simp
          with_reducible rfl
         rotate_left
         ·simp only [Act.put, List.setIfInBounds_toArray, List.set_cons_zero, List.set_cons_succ, i64_w, i32_w]
          rfl
         refine take_ (i := 0) (N := some 21) (v := ?_) (a' := ?_) #[true, true, true, false, false, false, false, false, false, false, false, false] rfl rfl (take_ofW HT_.out HW_.out (by kernel_rfl)) (fun _ _ _ h => h) (Or.inl ⟨by rfl, ?_⟩) hHeld ?_ ?_
         rotate_left
         ·rintro w' ⟨s0, s1, s2, s3⟩
          go_simp
          with_reducible rfl
         rotate_left
         ·simp only [Act.put, List.setIfInBounds_toArray, List.set_cons_zero, List.set_cons_succ, i64_w, i32_w]
          rfl
         refine take_ (i := 3) (N := some 24) (v := ?_) (a' := ?_) #[true, true, true, true, false, false, false, false, false, false, false, false] rfl rfl (take_ofW HT_.out HW_.out (by kernel_rfl)) (fun _ _ _ h => h) (Or.inl ⟨by rfl, ?_⟩) hHeld ?_ ?_
         rotate_left
         ·rintro w' ⟨s0, s1, s2, s3⟩
          go_simp
          with_reducible rfl
         rotate_left
         ·simp only [Act.put, List.setIfInBounds_toArray, List.set_cons_zero, List.set_cons_succ, i64_w, i32_w]
          rfl
         refine join_ (σ := Nat) 2 #[true, true, true, true, true, true, true, true, true, true, false, false] (fun s_ => [(25, .agg #[.int .i64 t545, .int .i64 t546, .int .i64 t547, .int .i64 t548]), (26, .tuple #[.agg #[.int .i64 t549, .int .i64 t550, .int .i64 t551, .int .i64 t552], .bool false]), (6, .pointer (some ⟨s_, 0, none⟩)), (20, .tuple #[.agg #[.int .i64 t549, .int .i64 t550, .int .i64 t551, .int .i64 t552], .bool false]), (27, .agg #[.int .i64 t549, .int .i64 t550, .int .i64 t551, .int .i64 t552]), (28, .bool false)]) (fun s_ w' => (w'.cell? ⟨gb544, 0, none⟩ = some (.int .i64 x545000_1) ∧ w'.cell? ⟨gb544, 1, none⟩ = some (.int .i64 x545001_1) ∧ w'.cell? ⟨gb544, 2, none⟩ = some (.int .i64 x545002_1) ∧ w'.cell? ⟨gb544, 3, none⟩ = some (.int .i64 x545003_1)) ∧ (w'.heap[gb543]? = some (.cells #[.int .i64 x544000_1, .int .i64 x544001_1, .int .i64 x544002_1, .int .i64 x544003_1] 46 (0, 0))) ∧ (w'.heap[gb544]? = some (.cells #[.int .i64 x545000_1, .int .i64 x545001_1, .int .i64 x545002_1, .int .i64 x545003_1] 46 (0, 0))) ∧ (w'.heap[s_]? = some (.cells #[.int .i64 0, .int .i64 0, .int .i64 0, .int .i64 0] 46 (0, 0))) ∧ (w.heap.size ≤ s_) ∧ (w.heap.size ≤ s_) ∧ (gb543 ≠ s_) ∧ (s_ ≠ gb543) ∧ (gb544 ≠ s_) ∧ (s_ ≠ gb544) ∧ (Below w.heap.size w w')) ?_ ?_
         rotate_left
         ·intro hCont
          refine two_ (i := 4) (j := 9) (Ni := some 25) (Nj := some 6) #[true, true, true, true, true, false, false, false, false, false, false, false] #[true, true, true, true, false, false, false, false, false, true, false, false] rfl rfl rfl rfl (two_of HT_.out (by kernel_rfl)) (by decide) (by decide) (fun K hK => ?_) (fun K hK => ?_)
          ·skip
           refine goes_ Try.func89 (by kernel_rfl) rfl #[.int .u8 (bt a0 x5_1)] (by rfl) rfl rfl (by (try simp only [List.map_toArray, List.map_cons, List.map_nil]); first | done | rfl | (simp only [List.length_drop, List.length_take]; rfl)) ?_
           with_reducible refine (spec_l13Turn.calls (bt a0 x5_1) t545 t546 t547 t548 _ A12.out).mono ?_
           rintro e w30 ⟨rfl, hb⟩
           refine ⟨_, rfl, ?_⟩
           have n0_ := Az.mk (bkB (g := gb543) (o := .cells #[.int .i64 x544000_1, .int .i64 x544001_1, .int .i64 x544002_1, .int .i64 x544003_1] 46 (0, 0)) (by (with_reducible repeat (first | refine bkN ?_ _ | refine bkD ?_ | refine bkA ?_ _)); exact BK543.out) hb)
           have n1_ := Az.mk (bkB (g := gb544) (o := .cells #[.int .i64 x545000_1, .int .i64 x545001_1, .int .i64 x545002_1, .int .i64 x545003_1] 46 (0, 0)) (by (with_reducible repeat (first | refine bkN ?_ _ | refine bkD ?_ | refine bkA ?_ _)); exact BK544.out) hb)
           have n2_ := Az.mk (bwT (by repeat (first | (with_reducible first | exact HB.out | apply bwA | apply pbN | apply bwD | refine bwS ?_ GE543.out | refine bwS ?_ GE544.out) | exact HB.out)) hb)
           clear BK543
           clear BK544
           clear HB
           have BK543 := n0_
           have BK544 := n1_
           have HB := n2_
           clear n0_ n1_ n2_
           (try clear hb)
           (try clear hb2)
           (try clear hk)
           (try clear hi)
           refine hK.out _ _ ⟨(bkC BK544.out 0).trans rfl, (bkC BK544.out 1).trans rfl, (bkC BK544.out 2).trans rfl, (bkC BK544.out 3).trans rfl⟩ (fun hHeld => ?_)
           clear hK K
           refine norm_ (a' := ?_) ?_ ?_
           rotate_left
           ·show Act.put _ (some 25) _ = _
            simp only [Act.put, List.setIfInBounds_toArray, List.set_cons_zero, List.set_cons_succ, i64_w, i32_w]
            rfl
           refine two_ (i := 5) (j := 9) (Ni := some 26) (Nj := some 6) #[true, true, true, true, true, true, false, false, false, false, false, false] #[true, true, true, true, true, false, false, false, false, true, false, false] rfl rfl rfl rfl (two_of HT_.out (by kernel_rfl)) (by decide) (by decide) (fun K hK => ?_) (fun K hK => ?_)
           ·skip
            refine goes_ Try.func88 (by kernel_rfl) rfl #[.agg #[.int .i64 x545000_1, .int .i64 x545001_1, .int .i64 x545002_1, .int .i64 x545003_1], .agg #[.int .i64 t545, .int .i64 t546, .int .i64 t547, .int .i64 t548]] (by rfl) rfl rfl (by (try simp only [List.map_toArray, List.map_cons, List.map_nil]); first | done | rfl | (simp only [List.length_drop, List.length_take]; rfl)) ?_
            with_reducible refine (spec_TimesMatrix.calls kj5 x545000_1 x545001_1 x545002_1 x545003_1 t545 t546 t547 t548 t549 t550 t551 t552 false _ A13.out).mono ?_
            rintro e w31 ⟨rfl, hb⟩
            refine ⟨_, rfl, ?_⟩
            have n0_ := Az.mk (bkB (g := gb543) (o := .cells #[.int .i64 x544000_1, .int .i64 x544001_1, .int .i64 x544002_1, .int .i64 x544003_1] 46 (0, 0)) (by (with_reducible repeat (first | refine bkN ?_ _ | refine bkD ?_ | refine bkA ?_ _)); exact BK543.out) hb)
            have n1_ := Az.mk (bkB (g := gb544) (o := .cells #[.int .i64 x545000_1, .int .i64 x545001_1, .int .i64 x545002_1, .int .i64 x545003_1] 46 (0, 0)) (by (with_reducible repeat (first | refine bkN ?_ _ | refine bkD ?_ | refine bkA ?_ _)); exact BK544.out) hb)
            have n2_ := Az.mk (bwT (by repeat (first | (with_reducible first | exact HB.out | apply bwA | apply pbN | apply bwD | refine bwS ?_ GE543.out | refine bwS ?_ GE544.out) | exact HB.out)) hb)
            clear BK543
            clear BK544
            clear HB
            have BK543 := n0_
            have BK544 := n1_
            have HB := n2_
            clear n0_ n1_ n2_
            (try clear hb)
            (try clear hb2)
            (try clear hk)
            (try clear hi)
            refine hK.out _ _ ⟨(bkC BK544.out 0).trans rfl, (bkC BK544.out 1).trans rfl, (bkC BK544.out 2).trans rfl, (bkC BK544.out 3).trans rfl⟩ (fun hHeld => ?_)
            clear hK K
            refine norm_ (a' := ?_) ?_ ?_
            rotate_left
            ·show Act.put _ (some 26) _ = _
             simp only [Act.put, List.setIfInBounds_toArray, List.set_cons_zero, List.set_cons_succ, i64_w, i32_w]
             rfl
            refine pure_ (i := 6) (N := some 20) (v := ?_) (a' := ?_) #[true, true, true, true, true, true, true, false, false, false, false, false] rfl rfl (any_of HT_.out (by kernel_rfl)) (fun _ _ _ h => h) (Or.inl ⟨by rfl, ?_⟩) ?_ ?_
            rotate_left
            ·intro w'
             go_simp
             with_reducible rfl
            rotate_left
            ·simp only [Act.put, List.setIfInBounds_toArray, List.set_cons_zero, List.set_cons_succ, i64_w, i32_w]
             rfl
            refine pure_ (i := 7) (N := some 27) (v := ?_) (a' := ?_) #[true, true, true, true, true, true, true, true, false, false, false, false] rfl rfl (any_of HT_.out (by kernel_rfl)) (fun _ _ _ h => h) (Or.inl ⟨by rfl, ?_⟩) ?_ ?_
            rotate_left
            ·intro w'
             go_simp
             with_reducible rfl
            rotate_left
            ·simp only [Act.put, List.setIfInBounds_toArray, List.set_cons_zero, List.set_cons_succ, i64_w, i32_w]
             rfl
            refine pure_ (i := 8) (N := some 28) (v := ?_) (a' := ?_) #[true, true, true, true, true, true, true, true, true, false, false, false] rfl rfl (any_of HT_.out (by kernel_rfl)) (fun _ _ _ h => h) (Or.inl ⟨by rfl, ?_⟩) ?_ ?_
            rotate_left
            ·intro w'
             go_simp
             with_reducible rfl
            rotate_left
            ·simp only [Act.put, List.setIfInBounds_toArray, List.set_cons_zero, List.set_cons_succ, i64_w, i32_w]
             rfl
            refine one_ (i := 9) (N := some 6) #[true, true, true, true, true, true, true, true, true, true, false, false] rfl rfl (one_of HT_.out (by kernel_rfl)) (by decide) (fun K hK => ?_)
            refine box_step ?hg (N := 6) ?hd (cs := #[.int .i64 0, .int .i64 0, .int .i64 0, .int .i64 0]) (t := 46) ?hr ?_; (case hd => rfl); (case hg => rfl); (case hr => first | (go_simp; done) | (go_simp; rfl))
            intro gb554 hg w32 hbox hb
            have n0_ := Az.mk (bkB (g := gb543) (o := .cells #[.int .i64 x544000_1, .int .i64 x544001_1, .int .i64 x544002_1, .int .i64 x544003_1] 46 (0, 0)) (by (with_reducible repeat (first | refine bkN ?_ _ | refine bkD ?_ | refine bkA ?_ _)); exact BK543.out) hb)
            have n1_ := Az.mk (bkB (g := gb544) (o := .cells #[.int .i64 x545000_1, .int .i64 x545001_1, .int .i64 x545002_1, .int .i64 x545003_1] 46 (0, 0)) (by (with_reducible repeat (first | refine bkN ?_ _ | refine bkD ?_ | refine bkA ?_ _)); exact BK544.out) hb)
            have n2_ := Az.mk (bwT (by repeat (first | (with_reducible first | exact HB.out | apply bwA | apply pbN | apply bwD | refine bwS ?_ GE543.out | refine bwS ?_ GE544.out) | exact HB.out)) hb)
            have n3_ := Az.mk (hbox)
            have n4_ := Az.mk ((by rw [hg]; exact (bwZ (by repeat (first | (with_reducible first | exact HB.out | apply bwA | apply pbN | apply bwD | refine bwS ?_ GE543.out | refine bwS ?_ GE544.out) | exact HB.out))) : w.heap.size ≤ gb554))
            have n5_ := Az.mk ((by rw [hg]; exact (bwZ (by repeat (first | (with_reducible first | exact HB.out | apply bwA | apply pbN | apply bwD | refine bwS ?_ GE543.out | refine bwS ?_ GE544.out) | exact HB.out))) : w.heap.size ≤ gb554))
            have n6_ := Az.mk ((by rw [hg]; exact Nat.ne_of_lt (blk_lt (g := gb543) (o := .cells #[.int .i64 x544000_1, .int .i64 x544001_1, .int .i64 x544002_1, .int .i64 x544003_1] 46 (0, 0)) (by (with_reducible repeat (first | refine bkN ?_ _ | refine bkD ?_ | refine bkA ?_ _)); exact BK543.out)) : gb543 ≠ gb554))
            have n7_ := Az.mk ((by rw [hg]; exact Nat.ne_of_gt (blk_lt (g := gb543) (o := .cells #[.int .i64 x544000_1, .int .i64 x544001_1, .int .i64 x544002_1, .int .i64 x544003_1] 46 (0, 0)) (by (with_reducible repeat (first | refine bkN ?_ _ | refine bkD ?_ | refine bkA ?_ _)); exact BK543.out)) : gb554 ≠ gb543))
            have n8_ := Az.mk ((by rw [hg]; exact Nat.ne_of_lt (blk_lt (g := gb544) (o := .cells #[.int .i64 x545000_1, .int .i64 x545001_1, .int .i64 x545002_1, .int .i64 x545003_1] 46 (0, 0)) (by (with_reducible repeat (first | refine bkN ?_ _ | refine bkD ?_ | refine bkA ?_ _)); exact BK544.out)) : gb544 ≠ gb554))
            have n9_ := Az.mk ((by rw [hg]; exact Nat.ne_of_gt (blk_lt (g := gb544) (o := .cells #[.int .i64 x545000_1, .int .i64 x545001_1, .int .i64 x545002_1, .int .i64 x545003_1] 46 (0, 0)) (by (with_reducible repeat (first | refine bkN ?_ _ | refine bkD ?_ | refine bkA ?_ _)); exact BK544.out)) : gb554 ≠ gb544))
            clear BK543
            clear BK544
            clear HB
            have BK543 := n0_
            have BK544 := n1_
            have HB := n2_
            have BK554 := n3_
            have GW554 := n4_
            have GE554 := n5_
            have NB543_554 := n6_
            have NB554_543 := n7_
            have NB544_554 := n8_
            have NB554_544 := n9_
            clear n0_ n1_ n2_ n3_ n4_ n5_ n6_ n7_ n8_ n9_
            clear hb hbox hg
            refine hK.out _ _ ⟨(bkC BK544.out 0).trans rfl, (bkC BK544.out 1).trans rfl, (bkC BK544.out 2).trans rfl, (bkC BK544.out 3).trans rfl⟩ (fun hHeld => ?_)
            clear hK K
            refine norm_ (a' := ?_) ?_ ?_
            rotate_left
            ·show Act.put _ (some 6) _ = _
             simp only [Act.put, List.setIfInBounds_toArray, List.set_cons_zero, List.set_cons_succ, i64_w, i32_w]
             rfl
            exact norm_ (by simp only [putAll, Act.put, List.setIfInBounds_toArray, List.set_cons_zero, List.set_cons_succ]) (hCont (gb554) _ ⟨hHeld, (by (with_reducible repeat (first | refine bkN ?_ _ | refine bkD ?_ | refine bkA ?_ _)); exact BK543.out), (by (with_reducible repeat (first | refine bkN ?_ _ | refine bkD ?_ | refine bkA ?_ _)); exact BK544.out), (by (with_reducible repeat (first | refine bkN ?_ _ | refine bkD ?_ | refine bkA ?_ _)); exact BK554.out), GW554.out, GE554.out, NB543_554.out, NB554_543.out, NB544_554.out, NB554_544.out, (by repeat (first | (with_reducible first | exact HB.out | apply bwA | apply pbN | apply bwD | refine bwS ?_ GE543.out | refine bwS ?_ GE544.out | refine bwS ?_ GE554.out) | exact HB.out))⟩)
           ·skip
            refine box_step ?hg (N := 6) ?hd (cs := #[.int .i64 0, .int .i64 0, .int .i64 0, .int .i64 0]) (t := 46) ?hr ?_; (case hd => rfl); (case hg => rfl); (case hr => first | (go_simp; done) | (go_simp; rfl))
            intro gb554 hg w31 hbox hb
            have n0_ := Az.mk (bkB (g := gb543) (o := .cells #[.int .i64 x544000_1, .int .i64 x544001_1, .int .i64 x544002_1, .int .i64 x544003_1] 46 (0, 0)) (by (with_reducible repeat (first | refine bkN ?_ _ | refine bkD ?_ | refine bkA ?_ _)); exact BK543.out) hb)
            have n1_ := Az.mk (bkB (g := gb544) (o := .cells #[.int .i64 x545000_1, .int .i64 x545001_1, .int .i64 x545002_1, .int .i64 x545003_1] 46 (0, 0)) (by (with_reducible repeat (first | refine bkN ?_ _ | refine bkD ?_ | refine bkA ?_ _)); exact BK544.out) hb)
            have n2_ := Az.mk (bwT (by repeat (first | (with_reducible first | exact HB.out | apply bwA | apply pbN | apply bwD | refine bwS ?_ GE543.out | refine bwS ?_ GE544.out) | exact HB.out)) hb)
            have n3_ := Az.mk (hbox)
            have n4_ := Az.mk ((by rw [hg]; exact (bwZ (by repeat (first | (with_reducible first | exact HB.out | apply bwA | apply pbN | apply bwD | refine bwS ?_ GE543.out | refine bwS ?_ GE544.out) | exact HB.out))) : w.heap.size ≤ gb554))
            have n5_ := Az.mk ((by rw [hg]; exact (bwZ (by repeat (first | (with_reducible first | exact HB.out | apply bwA | apply pbN | apply bwD | refine bwS ?_ GE543.out | refine bwS ?_ GE544.out) | exact HB.out))) : w.heap.size ≤ gb554))
            have n6_ := Az.mk ((by rw [hg]; exact Nat.ne_of_lt (blk_lt (g := gb543) (o := .cells #[.int .i64 x544000_1, .int .i64 x544001_1, .int .i64 x544002_1, .int .i64 x544003_1] 46 (0, 0)) (by (with_reducible repeat (first | refine bkN ?_ _ | refine bkD ?_ | refine bkA ?_ _)); exact BK543.out)) : gb543 ≠ gb554))
            have n7_ := Az.mk ((by rw [hg]; exact Nat.ne_of_gt (blk_lt (g := gb543) (o := .cells #[.int .i64 x544000_1, .int .i64 x544001_1, .int .i64 x544002_1, .int .i64 x544003_1] 46 (0, 0)) (by (with_reducible repeat (first | refine bkN ?_ _ | refine bkD ?_ | refine bkA ?_ _)); exact BK543.out)) : gb554 ≠ gb543))
            have n8_ := Az.mk ((by rw [hg]; exact Nat.ne_of_lt (blk_lt (g := gb544) (o := .cells #[.int .i64 x545000_1, .int .i64 x545001_1, .int .i64 x545002_1, .int .i64 x545003_1] 46 (0, 0)) (by (with_reducible repeat (first | refine bkN ?_ _ | refine bkD ?_ | refine bkA ?_ _)); exact BK544.out)) : gb544 ≠ gb554))
            have n9_ := Az.mk ((by rw [hg]; exact Nat.ne_of_gt (blk_lt (g := gb544) (o := .cells #[.int .i64 x545000_1, .int .i64 x545001_1, .int .i64 x545002_1, .int .i64 x545003_1] 46 (0, 0)) (by (with_reducible repeat (first | refine bkN ?_ _ | refine bkD ?_ | refine bkA ?_ _)); exact BK544.out)) : gb554 ≠ gb544))
            clear BK543
            clear BK544
            clear HB
            have BK543 := n0_
            have BK544 := n1_
            have HB := n2_
            have BK554 := n3_
            have GW554 := n4_
            have GE554 := n5_
            have NB543_554 := n6_
            have NB554_543 := n7_
            have NB544_554 := n8_
            have NB554_544 := n9_
            clear n0_ n1_ n2_ n3_ n4_ n5_ n6_ n7_ n8_ n9_
            clear hb hbox hg
            refine hK.out _ _ ⟨(bkC BK544.out 0).trans rfl, (bkC BK544.out 1).trans rfl, (bkC BK544.out 2).trans rfl, (bkC BK544.out 3).trans rfl⟩ (fun hHeld => ?_)
            clear hK K
            refine norm_ (a' := ?_) ?_ ?_
            rotate_left
            ·show Act.put _ (some 6) _ = _
             simp only [Act.put, List.setIfInBounds_toArray, List.set_cons_zero, List.set_cons_succ, i64_w, i32_w]
             rfl
            refine one_ (i := 5) (N := some 26) #[true, true, true, true, true, true, false, false, false, true, false, false] rfl rfl (one_of HT_.out (by kernel_rfl)) (by decide) (fun K hK => ?_)
            refine goes_ Try.func88 (by kernel_rfl) rfl #[.agg #[.int .i64 x545000_1, .int .i64 x545001_1, .int .i64 x545002_1, .int .i64 x545003_1], .agg #[.int .i64 t545, .int .i64 t546, .int .i64 t547, .int .i64 t548]] (by rfl) rfl rfl (by (try simp only [List.map_toArray, List.map_cons, List.map_nil]); first | done | rfl | (simp only [List.length_drop, List.length_take]; rfl)) ?_
            with_reducible refine (spec_TimesMatrix.calls kj5 x545000_1 x545001_1 x545002_1 x545003_1 t545 t546 t547 t548 t549 t550 t551 t552 false _ A13.out).mono ?_
            rintro e w32 ⟨rfl, hb⟩
            refine ⟨_, rfl, ?_⟩
            have n0_ := Az.mk (bkB (g := gb543) (o := .cells #[.int .i64 x544000_1, .int .i64 x544001_1, .int .i64 x544002_1, .int .i64 x544003_1] 46 (0, 0)) (by (with_reducible repeat (first | refine bkN ?_ _ | refine bkD ?_ | refine bkA ?_ _)); exact BK543.out) hb)
            have n1_ := Az.mk (bkB (g := gb544) (o := .cells #[.int .i64 x545000_1, .int .i64 x545001_1, .int .i64 x545002_1, .int .i64 x545003_1] 46 (0, 0)) (by (with_reducible repeat (first | refine bkN ?_ _ | refine bkD ?_ | refine bkA ?_ _)); exact BK544.out) hb)
            have n2_ := Az.mk (bkB (g := gb554) (o := .cells #[.int .i64 0, .int .i64 0, .int .i64 0, .int .i64 0] 46 (0, 0)) (by (with_reducible repeat (first | refine bkN ?_ _ | refine bkD ?_ | refine bkA ?_ _)); exact BK554.out) hb)
            have n3_ := Az.mk (bwT (by repeat (first | (with_reducible first | exact HB.out | apply bwA | apply pbN | apply bwD | refine bwS ?_ GE543.out | refine bwS ?_ GE544.out | refine bwS ?_ GE554.out) | exact HB.out)) hb)
            clear BK543
            clear BK544
            clear BK554
            clear HB
            have BK543 := n0_
            have BK544 := n1_
            have BK554 := n2_
            have HB := n3_
            clear n0_ n1_ n2_ n3_
            (try clear hb)
            (try clear hb2)
            (try clear hk)
            (try clear hi)
            refine hK.out _ _ ⟨(bkC BK544.out 0).trans rfl, (bkC BK544.out 1).trans rfl, (bkC BK544.out 2).trans rfl, (bkC BK544.out 3).trans rfl⟩ (fun hHeld => ?_)
            clear hK K
            refine norm_ (a' := ?_) ?_ ?_
            rotate_left
            ·show Act.put _ (some 26) _ = _
             simp only [Act.put, List.setIfInBounds_toArray, List.set_cons_zero, List.set_cons_succ, i64_w, i32_w]
             rfl
            refine pure_ (i := 6) (N := some 20) (v := ?_) (a' := ?_) #[true, true, true, true, true, true, true, false, false, true, false, false] rfl rfl (any_of HT_.out (by kernel_rfl)) (fun _ _ _ h => h) (Or.inl ⟨by rfl, ?_⟩) ?_ ?_
            rotate_left
            ·intro w'
             go_simp
             with_reducible rfl
            rotate_left
            ·simp only [Act.put, List.setIfInBounds_toArray, List.set_cons_zero, List.set_cons_succ, i64_w, i32_w]
             rfl
            refine pure_ (i := 7) (N := some 27) (v := ?_) (a' := ?_) #[true, true, true, true, true, true, true, true, false, true, false, false] rfl rfl (any_of HT_.out (by kernel_rfl)) (fun _ _ _ h => h) (Or.inl ⟨by rfl, ?_⟩) ?_ ?_
            rotate_left
            ·intro w'
             go_simp
             with_reducible rfl
            rotate_left
            ·simp only [Act.put, List.setIfInBounds_toArray, List.set_cons_zero, List.set_cons_succ, i64_w, i32_w]
             rfl
            refine pure_ (i := 8) (N := some 28) (v := ?_) (a' := ?_) #[true, true, true, true, true, true, true, true, true, true, false, false] rfl rfl (any_of HT_.out (by kernel_rfl)) (fun _ _ _ h => h) (Or.inl ⟨by rfl, ?_⟩) ?_ ?_
            rotate_left
            ·intro w'
             go_simp
             with_reducible rfl
            rotate_left
            ·simp only [Act.put, List.setIfInBounds_toArray, List.set_cons_zero, List.set_cons_succ, i64_w, i32_w]
             rfl
            exact norm_ (by simp only [putAll, Act.put, List.setIfInBounds_toArray, List.set_cons_zero, List.set_cons_succ]) (hCont (gb554) _ ⟨hHeld, (by (with_reducible repeat (first | refine bkN ?_ _ | refine bkD ?_ | refine bkA ?_ _)); exact BK543.out), (by (with_reducible repeat (first | refine bkN ?_ _ | refine bkD ?_ | refine bkA ?_ _)); exact BK544.out), (by (with_reducible repeat (first | refine bkN ?_ _ | refine bkD ?_ | refine bkA ?_ _)); exact BK554.out), GW554.out, GE554.out, NB543_554.out, NB554_543.out, NB544_554.out, NB554_544.out, (by repeat (first | (with_reducible first | exact HB.out | apply bwA | apply pbN | apply bwD | refine bwS ?_ GE543.out | refine bwS ?_ GE544.out | refine bwS ?_ GE554.out) | exact HB.out))⟩)
          ·skip
           refine box_step ?hg (N := 6) ?hd (cs := #[.int .i64 0, .int .i64 0, .int .i64 0, .int .i64 0]) (t := 46) ?hr ?_; (case hd => rfl); (case hg => rfl); (case hr => first | (go_simp; done) | (go_simp; rfl))
           intro gb554 hg w30 hbox hb
           have n0_ := Az.mk (bkB (g := gb543) (o := .cells #[.int .i64 x544000_1, .int .i64 x544001_1, .int .i64 x544002_1, .int .i64 x544003_1] 46 (0, 0)) (by (with_reducible repeat (first | refine bkN ?_ _ | refine bkD ?_ | refine bkA ?_ _)); exact BK543.out) hb)
           have n1_ := Az.mk (bkB (g := gb544) (o := .cells #[.int .i64 x545000_1, .int .i64 x545001_1, .int .i64 x545002_1, .int .i64 x545003_1] 46 (0, 0)) (by (with_reducible repeat (first | refine bkN ?_ _ | refine bkD ?_ | refine bkA ?_ _)); exact BK544.out) hb)
           have n2_ := Az.mk (bwT (by repeat (first | (with_reducible first | exact HB.out | apply bwA | apply pbN | apply bwD | refine bwS ?_ GE543.out | refine bwS ?_ GE544.out) | exact HB.out)) hb)
           have n3_ := Az.mk (hbox)
           have n4_ := Az.mk ((by rw [hg]; exact (bwZ (by repeat (first | (with_reducible first | exact HB.out | apply bwA | apply pbN | apply bwD | refine bwS ?_ GE543.out | refine bwS ?_ GE544.out) | exact HB.out))) : w.heap.size ≤ gb554))
           have n5_ := Az.mk ((by rw [hg]; exact (bwZ (by repeat (first | (with_reducible first | exact HB.out | apply bwA | apply pbN | apply bwD | refine bwS ?_ GE543.out | refine bwS ?_ GE544.out) | exact HB.out))) : w.heap.size ≤ gb554))
           have n6_ := Az.mk ((by rw [hg]; exact Nat.ne_of_lt (blk_lt (g := gb543) (o := .cells #[.int .i64 x544000_1, .int .i64 x544001_1, .int .i64 x544002_1, .int .i64 x544003_1] 46 (0, 0)) (by (with_reducible repeat (first | refine bkN ?_ _ | refine bkD ?_ | refine bkA ?_ _)); exact BK543.out)) : gb543 ≠ gb554))
           have n7_ := Az.mk ((by rw [hg]; exact Nat.ne_of_gt (blk_lt (g := gb543) (o := .cells #[.int .i64 x544000_1, .int .i64 x544001_1, .int .i64 x544002_1, .int .i64 x544003_1] 46 (0, 0)) (by (with_reducible repeat (first | refine bkN ?_ _ | refine bkD ?_ | refine bkA ?_ _)); exact BK543.out)) : gb554 ≠ gb543))
           have n8_ := Az.mk ((by rw [hg]; exact Nat.ne_of_lt (blk_lt (g := gb544) (o := .cells #[.int .i64 x545000_1, .int .i64 x545001_1, .int .i64 x545002_1, .int .i64 x545003_1] 46 (0, 0)) (by (with_reducible repeat (first | refine bkN ?_ _ | refine bkD ?_ | refine bkA ?_ _)); exact BK544.out)) : gb544 ≠ gb554))
           have n9_ := Az.mk ((by rw [hg]; exact Nat.ne_of_gt (blk_lt (g := gb544) (o := .cells #[.int .i64 x545000_1, .int .i64 x545001_1, .int .i64 x545002_1, .int .i64 x545003_1] 46 (0, 0)) (by (with_reducible repeat (first | refine bkN ?_ _ | refine bkD ?_ | refine bkA ?_ _)); exact BK544.out)) : gb554 ≠ gb544))
           clear BK543
           clear BK544
           clear HB
           have BK543 := n0_
           have BK544 := n1_
           have HB := n2_
           have BK554 := n3_
           have GW554 := n4_
           have GE554 := n5_
           have NB543_554 := n6_
           have NB554_543 := n7_
           have NB544_554 := n8_
           have NB554_544 := n9_
           clear n0_ n1_ n2_ n3_ n4_ n5_ n6_ n7_ n8_ n9_
           clear hb hbox hg
           refine hK.out _ _ ⟨(bkC BK544.out 0).trans rfl, (bkC BK544.out 1).trans rfl, (bkC BK544.out 2).trans rfl, (bkC BK544.out 3).trans rfl⟩ (fun hHeld => ?_)
           clear hK K
           refine norm_ (a' := ?_) ?_ ?_
           rotate_left
           ·show Act.put _ (some 6) _ = _
            simp only [Act.put, List.setIfInBounds_toArray, List.set_cons_zero, List.set_cons_succ, i64_w, i32_w]
            rfl
           refine one_ (i := 4) (N := some 25) #[true, true, true, true, true, false, false, false, false, true, false, false] rfl rfl (one_of HT_.out (by kernel_rfl)) (by decide) (fun K hK => ?_)
           refine goes_ Try.func89 (by kernel_rfl) rfl #[.int .u8 (bt a0 x5_1)] (by rfl) rfl rfl (by (try simp only [List.map_toArray, List.map_cons, List.map_nil]); first | done | rfl | (simp only [List.length_drop, List.length_take]; rfl)) ?_
           with_reducible refine (spec_l13Turn.calls (bt a0 x5_1) t545 t546 t547 t548 _ A12.out).mono ?_
           rintro e w31 ⟨rfl, hb⟩
           refine ⟨_, rfl, ?_⟩
           have n0_ := Az.mk (bkB (g := gb543) (o := .cells #[.int .i64 x544000_1, .int .i64 x544001_1, .int .i64 x544002_1, .int .i64 x544003_1] 46 (0, 0)) (by (with_reducible repeat (first | refine bkN ?_ _ | refine bkD ?_ | refine bkA ?_ _)); exact BK543.out) hb)
           have n1_ := Az.mk (bkB (g := gb544) (o := .cells #[.int .i64 x545000_1, .int .i64 x545001_1, .int .i64 x545002_1, .int .i64 x545003_1] 46 (0, 0)) (by (with_reducible repeat (first | refine bkN ?_ _ | refine bkD ?_ | refine bkA ?_ _)); exact BK544.out) hb)
           have n2_ := Az.mk (bkB (g := gb554) (o := .cells #[.int .i64 0, .int .i64 0, .int .i64 0, .int .i64 0] 46 (0, 0)) (by (with_reducible repeat (first | refine bkN ?_ _ | refine bkD ?_ | refine bkA ?_ _)); exact BK554.out) hb)
           have n3_ := Az.mk (bwT (by repeat (first | (with_reducible first | exact HB.out | apply bwA | apply pbN | apply bwD | refine bwS ?_ GE543.out | refine bwS ?_ GE544.out | refine bwS ?_ GE554.out) | exact HB.out)) hb)
           clear BK543
           clear BK544
           clear BK554
           clear HB
           have BK543 := n0_
           have BK544 := n1_
           have BK554 := n2_
           have HB := n3_
           clear n0_ n1_ n2_ n3_
           (try clear hb)
           (try clear hb2)
           (try clear hk)
           (try clear hi)
           refine hK.out _ _ ⟨(bkC BK544.out 0).trans rfl, (bkC BK544.out 1).trans rfl, (bkC BK544.out 2).trans rfl, (bkC BK544.out 3).trans rfl⟩ (fun hHeld => ?_)
           clear hK K
           refine norm_ (a' := ?_) ?_ ?_
           rotate_left
           ·show Act.put _ (some 25) _ = _
            simp only [Act.put, List.setIfInBounds_toArray, List.set_cons_zero, List.set_cons_succ, i64_w, i32_w]
            rfl
           refine one_ (i := 5) (N := some 26) #[true, true, true, true, true, true, false, false, false, true, false, false] rfl rfl (one_of HT_.out (by kernel_rfl)) (by decide) (fun K hK => ?_)
           refine goes_ Try.func88 (by kernel_rfl) rfl #[.agg #[.int .i64 x545000_1, .int .i64 x545001_1, .int .i64 x545002_1, .int .i64 x545003_1], .agg #[.int .i64 t545, .int .i64 t546, .int .i64 t547, .int .i64 t548]] (by rfl) rfl rfl (by (try simp only [List.map_toArray, List.map_cons, List.map_nil]); first | done | rfl | (simp only [List.length_drop, List.length_take]; rfl)) ?_
           with_reducible refine (spec_TimesMatrix.calls kj5 x545000_1 x545001_1 x545002_1 x545003_1 t545 t546 t547 t548 t549 t550 t551 t552 false _ A13.out).mono ?_
           rintro e w32 ⟨rfl, hb⟩
           refine ⟨_, rfl, ?_⟩
           have n0_ := Az.mk (bkB (g := gb543) (o := .cells #[.int .i64 x544000_1, .int .i64 x544001_1, .int .i64 x544002_1, .int .i64 x544003_1] 46 (0, 0)) (by (with_reducible repeat (first | refine bkN ?_ _ | refine bkD ?_ | refine bkA ?_ _)); exact BK543.out) hb)
           have n1_ := Az.mk (bkB (g := gb544) (o := .cells #[.int .i64 x545000_1, .int .i64 x545001_1, .int .i64 x545002_1, .int .i64 x545003_1] 46 (0, 0)) (by (with_reducible repeat (first | refine bkN ?_ _ | refine bkD ?_ | refine bkA ?_ _)); exact BK544.out) hb)
           have n2_ := Az.mk (bkB (g := gb554) (o := .cells #[.int .i64 0, .int .i64 0, .int .i64 0, .int .i64 0] 46 (0, 0)) (by (with_reducible repeat (first | refine bkN ?_ _ | refine bkD ?_ | refine bkA ?_ _)); exact BK554.out) hb)
           have n3_ := Az.mk (bwT (by repeat (first | (with_reducible first | exact HB.out | apply bwA | apply pbN | apply bwD | refine bwS ?_ GE543.out | refine bwS ?_ GE544.out | refine bwS ?_ GE554.out) | exact HB.out)) hb)
           clear BK543
           clear BK544
           clear BK554
           clear HB
           have BK543 := n0_
           have BK544 := n1_
           have BK554 := n2_
           have HB := n3_
           clear n0_ n1_ n2_ n3_
           (try clear hb)
           (try clear hb2)
           (try clear hk)
           (try clear hi)
           refine hK.out _ _ ⟨(bkC BK544.out 0).trans rfl, (bkC BK544.out 1).trans rfl, (bkC BK544.out 2).trans rfl, (bkC BK544.out 3).trans rfl⟩ (fun hHeld => ?_)
           clear hK K
           refine norm_ (a' := ?_) ?_ ?_
           rotate_left
           ·show Act.put _ (some 26) _ = _
            simp only [Act.put, List.setIfInBounds_toArray, List.set_cons_zero, List.set_cons_succ, i64_w, i32_w]
            rfl
           refine pure_ (i := 6) (N := some 20) (v := ?_) (a' := ?_) #[true, true, true, true, true, true, true, false, false, true, false, false] rfl rfl (any_of HT_.out (by kernel_rfl)) (fun _ _ _ h => h) (Or.inl ⟨by rfl, ?_⟩) ?_ ?_
           rotate_left
           ·intro w'
            go_simp
            with_reducible rfl
           rotate_left
           ·simp only [Act.put, List.setIfInBounds_toArray, List.set_cons_zero, List.set_cons_succ, i64_w, i32_w]
            rfl
           refine pure_ (i := 7) (N := some 27) (v := ?_) (a' := ?_) #[true, true, true, true, true, true, true, true, false, true, false, false] rfl rfl (any_of HT_.out (by kernel_rfl)) (fun _ _ _ h => h) (Or.inl ⟨by rfl, ?_⟩) ?_ ?_
           rotate_left
           ·intro w'
            go_simp
            with_reducible rfl
           rotate_left
           ·simp only [Act.put, List.setIfInBounds_toArray, List.set_cons_zero, List.set_cons_succ, i64_w, i32_w]
            rfl
           refine pure_ (i := 8) (N := some 28) (v := ?_) (a' := ?_) #[true, true, true, true, true, true, true, true, true, true, false, false] rfl rfl (any_of HT_.out (by kernel_rfl)) (fun _ _ _ h => h) (Or.inl ⟨by rfl, ?_⟩) ?_ ?_
           rotate_left
           ·intro w'
            go_simp
            with_reducible rfl
           rotate_left
           ·simp only [Act.put, List.setIfInBounds_toArray, List.set_cons_zero, List.set_cons_succ, i64_w, i32_w]
            rfl
           exact norm_ (by simp only [putAll, Act.put, List.setIfInBounds_toArray, List.set_cons_zero, List.set_cons_succ]) (hCont (gb554) _ ⟨hHeld, (by (with_reducible repeat (first | refine bkN ?_ _ | refine bkD ?_ | refine bkA ?_ _)); exact BK543.out), (by (with_reducible repeat (first | refine bkN ?_ _ | refine bkD ?_ | refine bkA ?_ _)); exact BK544.out), (by (with_reducible repeat (first | refine bkN ?_ _ | refine bkD ?_ | refine bkA ?_ _)); exact BK554.out), GW554.out, GE554.out, NB543_554.out, NB554_543.out, NB544_554.out, NB554_544.out, (by repeat (first | (with_reducible first | exact HB.out | apply bwA | apply pbN | apply bwD | refine bwS ?_ GE543.out | refine bwS ?_ GE544.out | refine bwS ?_ GE554.out) | exact HB.out))⟩)
         rintro gb554 w33 ⟨hS_, h0_, h1_, h2_, h3_, h4_, h5_, h6_, h7_, h8_, h9_⟩
         have n0_ : Az (w33.heap[gb543]? = some (.cells #[.int .i64 x544000_1, .int .i64 x544001_1, .int .i64 x544002_1, .int .i64 x544003_1] 46 (0, 0))) := ⟨h0_⟩
         have n1_ : Az (w33.heap[gb544]? = some (.cells #[.int .i64 x545000_1, .int .i64 x545001_1, .int .i64 x545002_1, .int .i64 x545003_1] 46 (0, 0))) := ⟨h1_⟩
         have n2_ : Az (w33.heap[gb554]? = some (.cells #[.int .i64 0, .int .i64 0, .int .i64 0, .int .i64 0] 46 (0, 0))) := ⟨h2_⟩
         have n3_ : Az (w.heap.size ≤ gb554) := ⟨h3_⟩
         have n4_ : Az (w.heap.size ≤ gb554) := ⟨h4_⟩
         have n5_ : Az (gb543 ≠ gb554) := ⟨h5_⟩
         have n6_ : Az (gb554 ≠ gb543) := ⟨h6_⟩
         have n7_ : Az (gb544 ≠ gb554) := ⟨h7_⟩
         have n8_ : Az (gb554 ≠ gb544) := ⟨h8_⟩
         have n9_ : Az (Below w.heap.size w w33) := ⟨h9_⟩
         clear BK543
         clear BK544
         clear HB
         clear h0_ h1_ h2_ h3_ h4_ h5_ h6_ h7_ h8_ h9_
         have BK543 := n0_
         have BK544 := n1_
         have BK554 := n2_
         have GW554 := n3_
         have GE554 := n4_
         have NB543_554 := n5_
         have NB554_543 := n6_
         have NB544_554 := n7_
         have NB554_544 := n8_
         have HB := n9_
         clear n0_ n1_ n2_ n3_ n4_ n5_ n6_ n7_ n8_ n9_
         have hHeld : w33.cell? ⟨gb544, 0, none⟩ = some (.int .i64 x545000_1) ∧ w33.cell? ⟨gb544, 1, none⟩ = some (.int .i64 x545001_1) ∧ w33.cell? ⟨gb544, 2, none⟩ = some (.int .i64 x545002_1) ∧ w33.cell? ⟨gb544, 3, none⟩ = some (.int .i64 x545003_1) := hS_
         refine norm_ (a' := ?_) ?_ ?_
         rotate_left
         ·simp only [putAll, Act.put, List.setIfInBounds_toArray, List.set_cons_zero, List.set_cons_succ]
          rfl
         refine one_ (i := 10) (N := none) #[true, true, true, true, true, true, true, true, true, true, true, false] rfl rfl (one_of HT_.out (by kernel_rfl)) (by decide) (fun K hK => ?_)
         have hs34 : w33.cell? ⟨gb554, 0, none⟩ = some (.int .i64 0) := (bkC BK554.out 0).trans rfl
         have hfs34 := bkF BK554.out 0
         have hns34_0 := NB543_554.out
         have hns34_1 := NB544_554.out
         have hms34_0 := NB554_543.out
         have hms34_1 := NB554_544.out
         have hs35 : w33.cell? ⟨gb554, 1, none⟩ = some (.int .i64 0) := (bkC BK554.out 1).trans rfl
         have hfs35 := bkF BK554.out 1
         have hns35_0 := NB543_554.out
         have hns35_1 := NB544_554.out
         have hms35_0 := NB554_543.out
         have hms35_1 := NB554_544.out
         have hs36 : w33.cell? ⟨gb554, 2, none⟩ = some (.int .i64 0) := (bkC BK554.out 2).trans rfl
         have hfs36 := bkF BK554.out 2
         have hns36_0 := NB543_554.out
         have hns36_1 := NB544_554.out
         have hms36_0 := NB554_543.out
         have hms36_1 := NB554_544.out
         have hs37 : w33.cell? ⟨gb554, 3, none⟩ = some (.int .i64 0) := (bkC BK554.out 3).trans rfl
         have hfs37 := bkF BK554.out 3
         have hns37_0 := NB543_554.out
         have hns37_1 := NB544_554.out
         have hms37_0 := NB554_543.out
         have hms37_1 := NB554_544.out
         refine skip_ (w1 := ?_) (by rfl) rfl ?_ ?_
         rotate_left
         ·go_simp
          rfl
         refine hK.out _ _ ⟨((cell_far (p := ⟨gb554, _, none⟩) NB544_554.out _).trans (((cell_far (p := ⟨gb554, _, none⟩) NB544_554.out _).trans (((cell_far (p := ⟨gb554, _, none⟩) NB544_554.out _).trans (((cell_far (p := ⟨gb554, _, none⟩) NB544_554.out _).trans (hHeld.1)))))))), ((cell_far (p := ⟨gb554, _, none⟩) NB544_554.out _).trans (((cell_far (p := ⟨gb554, _, none⟩) NB544_554.out _).trans (((cell_far (p := ⟨gb554, _, none⟩) NB544_554.out _).trans (((cell_far (p := ⟨gb554, _, none⟩) NB544_554.out _).trans (hHeld.2.1)))))))), ((cell_far (p := ⟨gb554, _, none⟩) NB544_554.out _).trans (((cell_far (p := ⟨gb554, _, none⟩) NB544_554.out _).trans (((cell_far (p := ⟨gb554, _, none⟩) NB544_554.out _).trans (((cell_far (p := ⟨gb554, _, none⟩) NB544_554.out _).trans (hHeld.2.2.1)))))))), ((cell_far (p := ⟨gb554, _, none⟩) NB544_554.out _).trans (((cell_far (p := ⟨gb554, _, none⟩) NB544_554.out _).trans (((cell_far (p := ⟨gb554, _, none⟩) NB544_554.out _).trans (((cell_far (p := ⟨gb554, _, none⟩) NB544_554.out _).trans (hHeld.2.2.2))))))))⟩ (fun hHeld => ?_)
         clear hK K
         refine pure_ (i := 11) (N := some 7) (v := ?_) (a' := ?_) #[true, true, true, true, true, true, true, true, true, true, true, true] rfl rfl (any_of HT_.out (by kernel_rfl)) (fun _ _ _ h => h) (Or.inl ⟨by rfl, ?_⟩) ?_ ?_
         rotate_left
         ·intro w'
          go_simp
          with_reducible rfl
         rotate_left
         ·simp only [Act.put, List.setIfInBounds_toArray, List.set_cons_zero, List.set_cons_succ, i64_w, i32_w]
          rfl
         refine done_ (done_of HT_.out (by kernel_rfl)) ?_
         have hnb38 := NB543_544.out
         have hnc38 := NB544_543.out
         have hnb39 := NB543_554.out
         have hnc39 := NB554_543.out
         have hcz40_0 : w33.cell? ⟨gb543, 0, none⟩ = some (.int .i64 x544000_1) := (bkC BK543.out 0).trans rfl
         have hcz40_1 : w33.cell? ⟨gb543, 1, none⟩ = some (.int .i64 x544001_1) := (bkC BK543.out 1).trans rfl
         have hcz40_2 : w33.cell? ⟨gb543, 2, none⟩ = some (.int .i64 x544002_1) := (bkC BK543.out 2).trans rfl
         have hcz40_3 : w33.cell? ⟨gb543, 3, none⟩ = some (.int .i64 x544003_1) := (bkC BK543.out 3).trans rfl
         have hfz40_0 := bkF BK543.out 0
         have hfz40_1 := bkF BK543.out 1
         have hfz40_2 := bkF BK543.out 2
         have hfz40_3 := bkF BK543.out 3
         try go_wp2
         refine bodyPost_ret (results_ct rfl _ _ gb543 46 #[.int .i64 0, .int .i64 0, .int .i64 0, .int .i64 0] (0, 0) _ rfl (by (with_reducible repeat (first | refine bkN ?_ _ | refine bkD ?_ | refine bkA ?_ _)); refine bkp (cs := #[.int .i64 0, .int .i64 0, .int .i64 0, .int .i64 x544003_1]) ?_ 3 _ rfl; (with_reducible repeat (first | refine bkN ?_ _ | refine bkD ?_ | refine bkA ?_ _)); refine bkp (cs := #[.int .i64 0, .int .i64 0, .int .i64 x544002_1, .int .i64 x544003_1]) ?_ 2 _ rfl; (with_reducible repeat (first | refine bkN ?_ _ | refine bkD ?_ | refine bkA ?_ _)); refine bkp (cs := #[.int .i64 0, .int .i64 x544001_1, .int .i64 x544002_1, .int .i64 x544003_1]) ?_ 1 _ rfl; (with_reducible repeat (first | refine bkN ?_ _ | refine bkD ?_ | refine bkA ?_ _)); refine bkp (cs := #[.int .i64 x544000_1, .int .i64 x544001_1, .int .i64 x544002_1, .int .i64 x544003_1]) ?_ 0 _ rfl; (with_reducible repeat (first | refine bkN ?_ _ | refine bkD ?_ | refine bkA ?_ _)); refine bkf ?_ NB543_554.out _; (with_reducible repeat (first | refine bkN ?_ _ | refine bkD ?_ | refine bkA ?_ _)); refine bkf ?_ NB543_554.out _; (with_reducible repeat (first | refine bkN ?_ _ | refine bkD ?_ | refine bkA ?_ _)); refine bkf ?_ NB543_554.out _; (with_reducible repeat (first | refine bkN ?_ _ | refine bkD ?_ | refine bkA ?_ _)); refine bkf ?_ NB543_554.out _; (with_reducible repeat (first | refine bkN ?_ _ | refine bkD ?_ | refine bkA ?_ _)); exact BK543.out) Try.underlying46 rfl (by kernel_rfl)) rfl ?_
         exact ⟨by first | rfl | (simp [eWn, eWs] <;> rfl) | (simp [*, eWn, eWs] <;> rfl), by repeat (first | (with_reducible first | exact HB.out | apply bwA | apply pbN | apply bwD | refine bwS ?_ GE543.out | refine bwS ?_ GE544.out | refine bwS ?_ GE554.out) | exact HB.out)⟩
       ·rw [if_neg c10] at H
        exact absurd H (by simp)
      ·rw [if_neg c9] at H
       exact absurd H (by simp)
     ·replace c8 := Bool.eq_false_iff.mpr c8
      subst c8
      have H1 : (if (a0.size : Int) > 24 then (some (0, 0, 0, 0, false)) else (some (x545000_1, x545001_1, x545002_1, x545003_1, true))) = some (r1, r2, r3, r4, r5) := by rw [if_neg (show ¬ (false = true) by decide)] at H; exact H
      clear H
      have H := H1
      clear H1
      by_cases c41 : (a0.size : Int) > 24
      ·rw [if_pos c41] at H
       have c41b0 : decide (24 < (a0.size : Int)) = true := decide_eq_true c41
       have c41b1 : decide (24 < a0.size) = true := decide_eq_true (by omega)
       clear c41
       simp only [Option.some.injEq, Prod.mk.injEq] at H
       obtain ⟨rfl, rfl, rfl, rfl, rfl⟩ := H
       have hnb42 := NB543_544.out
       have hnc42 := NB544_543.out
       have hcz43_0 : wc.cell? ⟨gb543, 0, none⟩ = some (.int .i64 x544000_1) := (bkC BK543.out 0).trans rfl
       have hcz43_1 : wc.cell? ⟨gb543, 1, none⟩ = some (.int .i64 x544001_1) := (bkC BK543.out 1).trans rfl
       have hcz43_2 : wc.cell? ⟨gb543, 2, none⟩ = some (.int .i64 x544002_1) := (bkC BK543.out 2).trans rfl
       have hcz43_3 : wc.cell? ⟨gb543, 3, none⟩ = some (.int .i64 x544003_1) := (bkC BK543.out 3).trans rfl
       have hfz43_0 := bkF BK543.out 0
       have hfz43_1 := bkF BK543.out 1
       have hfz43_2 := bkF BK543.out 2
       have hfz43_3 := bkF BK543.out 3
       go_wp2
       refine bodyPost_ret (results_ct rfl _ _ gb543 46 #[.int .i64 0, .int .i64 0, .int .i64 0, .int .i64 0] (0, 0) _ rfl (by (with_reducible repeat (first | refine bkN ?_ _ | refine bkD ?_ | refine bkA ?_ _)); refine bkp (cs := #[.int .i64 0, .int .i64 0, .int .i64 0, .int .i64 x544003_1]) ?_ 3 _ rfl; (with_reducible repeat (first | refine bkN ?_ _ | refine bkD ?_ | refine bkA ?_ _)); refine bkp (cs := #[.int .i64 0, .int .i64 0, .int .i64 x544002_1, .int .i64 x544003_1]) ?_ 2 _ rfl; (with_reducible repeat (first | refine bkN ?_ _ | refine bkD ?_ | refine bkA ?_ _)); refine bkp (cs := #[.int .i64 0, .int .i64 x544001_1, .int .i64 x544002_1, .int .i64 x544003_1]) ?_ 1 _ rfl; (with_reducible repeat (first | refine bkN ?_ _ | refine bkD ?_ | refine bkA ?_ _)); refine bkp (cs := #[.int .i64 x544000_1, .int .i64 x544001_1, .int .i64 x544002_1, .int .i64 x544003_1]) ?_ 0 _ rfl; (with_reducible repeat (first | refine bkN ?_ _ | refine bkD ?_ | refine bkA ?_ _)); exact BK543.out) Try.underlying46 rfl (by kernel_rfl)) rfl ?_
       exact ⟨by first | rfl | (simp [eWn, eWs] <;> rfl) | (simp [*, eWn, eWs] <;> rfl), by repeat (first | (with_reducible first | exact HB.out | apply bwA | apply pbN | apply bwD | refine bwS ?_ GE543.out | refine bwS ?_ GE544.out) | exact HB.out)⟩
      ·rw [if_neg c41] at H
       have c41b0 : decide (24 < (a0.size : Int)) = false := decide_eq_false c41
       have c41b1 : decide (24 < a0.size) = false := decide_eq_false (by omega)
       clear c41
       simp only [Option.some.injEq, Prod.mk.injEq] at H
       obtain ⟨rfl, rfl, rfl, rfl, rfl⟩ := H
       have hnb44 := NB544_543.out
       have hnc44 := NB543_544.out
       have hcz45_0 : wc.cell? ⟨gb544, 0, none⟩ = some (.int .i64 x545000_1) := (bkC BK544.out 0).trans rfl
       have hcz45_1 : wc.cell? ⟨gb544, 1, none⟩ = some (.int .i64 x545001_1) := (bkC BK544.out 1).trans rfl
       have hcz45_2 : wc.cell? ⟨gb544, 2, none⟩ = some (.int .i64 x545002_1) := (bkC BK544.out 2).trans rfl
       have hcz45_3 : wc.cell? ⟨gb544, 3, none⟩ = some (.int .i64 x545003_1) := (bkC BK544.out 3).trans rfl
       have hfz45_0 := bkF BK544.out 0
       have hfz45_1 := bkF BK544.out 1
       have hfz45_2 := bkF BK544.out 2
       have hfz45_3 := bkF BK544.out 3
       have hcz46_0 : wc.cell? ⟨gb543, 0, none⟩ = some (.int .i64 x544000_1) := (bkC BK543.out 0).trans rfl
       have hcz46_1 : wc.cell? ⟨gb543, 1, none⟩ = some (.int .i64 x544001_1) := (bkC BK543.out 1).trans rfl
       have hcz46_2 : wc.cell? ⟨gb543, 2, none⟩ = some (.int .i64 x544002_1) := (bkC BK543.out 2).trans rfl
       have hcz46_3 : wc.cell? ⟨gb543, 3, none⟩ = some (.int .i64 x544003_1) := (bkC BK543.out 3).trans rfl
       have hfz46_0 := bkF BK543.out 0
       have hfz46_1 := bkF BK543.out 1
       have hfz46_2 := bkF BK543.out 2
       have hfz46_3 := bkF BK543.out 3
       go_wp2
       refine bodyPost_ret (results_ct rfl _ _ gb543 46 #[.int .i64 x545000_1, .int .i64 x545001_1, .int .i64 x545002_1, .int .i64 x545003_1] (0, 0) _ rfl (by (with_reducible repeat (first | refine bkN ?_ _ | refine bkD ?_ | refine bkA ?_ _)); refine bkp (cs := #[.int .i64 x545000_1, .int .i64 x545001_1, .int .i64 x545002_1, .int .i64 x544003_1]) ?_ 3 _ rfl; (with_reducible repeat (first | refine bkN ?_ _ | refine bkD ?_ | refine bkA ?_ _)); refine bkp (cs := #[.int .i64 x545000_1, .int .i64 x545001_1, .int .i64 x544002_1, .int .i64 x544003_1]) ?_ 2 _ rfl; (with_reducible repeat (first | refine bkN ?_ _ | refine bkD ?_ | refine bkA ?_ _)); refine bkp (cs := #[.int .i64 x545000_1, .int .i64 x544001_1, .int .i64 x544002_1, .int .i64 x544003_1]) ?_ 1 _ rfl; (with_reducible repeat (first | refine bkN ?_ _ | refine bkD ?_ | refine bkA ?_ _)); refine bkp (cs := #[.int .i64 x544000_1, .int .i64 x544001_1, .int .i64 x544002_1, .int .i64 x544003_1]) ?_ 0 _ rfl; (with_reducible repeat (first | refine bkN ?_ _ | refine bkD ?_ | refine bkA ?_ _)); exact BK543.out) Try.underlying46 rfl (by kernel_rfl)) rfl ?_
       exact ⟨by first | rfl | (simp [eWn, eWs] <;> rfl) | (simp [*, eWn, eWs] <;> rfl), by repeat (first | (with_reducible first | exact HB.out | apply bwA | apply pbN | apply bwD | refine bwS ?_ GE543.out | refine bwS ?_ GE544.out) | exact HB.out)⟩

end Go.Proofs.Ytbnjcebmnamfjaa.P
