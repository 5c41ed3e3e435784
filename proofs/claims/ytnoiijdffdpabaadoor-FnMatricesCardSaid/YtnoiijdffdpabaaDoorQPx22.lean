-- By this session's driver (wip/tools/mk.py) of the kit's print program, over several statements at once. Not trusted: Lean checks it.
import Derived.Test.YtnoiijdffdpabaaDoorQWZip
import Derived.Test.YtnoiijdffdpabaaDoorQPx0
import Derived.Test.YtnoiijdffdpabaaDoorQPx2
import Derived.Test.YtnoiijdffdpabaaDoorQPx9
import Derived.Test.YtnoiijdffdpabaaDoorQPx20
namespace Go.Proofs.YtnoiijdffdpabaaDoor.P
open Go.RowKit Go.Proofs.YtnoiijdffdpabaaDoorW.PrintWords Go.Proofs.YtnoiijdffdpabaaDoorW.PrintLast Go.Proofs.YtnoiijdffdpabaaDoorW.PrintMore
attribute [local go_sem] max2_int min2_int max_two min_two max_three min_three max_four min_four   -- for this text's walks alone
set_option linter.unusedVariables false
set_option linter.unusedSimpArgs false
theorem bw_22 {n : Nat} {v v' : World} (h : Below n v v' := by repeat (first | (with_reducible first | exact HB.out | apply bwA | apply pbN | apply bwD | refine bwS ?_ GE447.out | refine bwS ?_ GE451.out) | exact HB.out)) : Below n v v' := h
theorem ln_22 {P : Prop} (h : P := by (try simp only [List.map_toArray, List.map_cons, List.map_nil]); first | done | rfl | (simp only [List.length_drop, List.length_take]; rfl)) : P := h
open Option renaming bind_eq_some_iff → be

/-! ### spec_OrderOf: function 30 -/
mutual
def spec_OrderOf.j0 : Nat → Bool → Int → Int → Int → Int → Option (Int)
 | 0, _, _, _, _, _ => none
 | k + 1, x15, x448000, x448001, x448002, x448003 => if x15 = true then (some 0) else (spec_OrderOf.l0 k 1 x448000 x448001 x448002 x448003 x448000 x448001 x448002 x448003)
def spec_OrderOf.l0 : Nat → Int → Int → Int → Int → Int → Int → Int → Int → Int → Option (Int)
 | 0, _, _, _, _, _, _, _, _, _ => none
 | k + 1, x4, x448000, x448001, x448002, x448003, x452000, x452001, x452002, x452003 => if x4 ≤ 6 then (if x452000 = 1 then (if x452001 = 0 then (if x452002 = 0 then (some x4) else ((spec_l13Times.f x452000 x452001 x452002 x452003 x448000 x448001 x448002 x448003).bind fun bt452 => (spec_OrderOf.l0 k (wrap64 (x4 + 1)) x448000 x448001 x448002 x448003 bt452.1 bt452.2.1 bt452.2.2.1 bt452.2.2.2))) else ((spec_l13Times.f x452000 x452001 x452002 x452003 x448000 x448001 x448002 x448003).bind fun bt456 => (spec_OrderOf.l0 k (wrap64 (x4 + 1)) x448000 x448001 x448002 x448003 bt456.1 bt456.2.1 bt456.2.2.1 bt456.2.2.2))) else ((spec_l13Times.f x452000 x452001 x452002 x452003 x448000 x448001 x448002 x448003).bind fun bt460 => (spec_OrderOf.l0 k (wrap64 (x4 + 1)) x448000 x448001 x448002 x448003 bt460.1 bt460.2.1 bt460.2.2.1 bt460.2.2.2))) else (some 0)
end
def spec_OrderOf.f (k : Nat) (a0_0 : Int) (a0_1 : Int) (a0_2 : Int) (a0_3 : Int) : Option (Int) := (spec_IsMatrix.f k a0_0 a0_1 a0_2 a0_3).bind fun t448 => (if t448 = true then ((spec_KindOf.f k a0_0 a0_1 a0_2 a0_3).bind fun t449 => (if t449.toList = ([116, 119, 105, 115, 116] : List UInt8) then (spec_OrderOf.j0 k true a0_0 a0_1 a0_2 a0_3) else ((spec_KindOf.f k a0_0 a0_1 a0_2 a0_3).bind fun t450 => (spec_OrderOf.j0 k (t450.toList == ([115, 116, 114, 101, 116, 99, 104] : List UInt8)) a0_0 a0_1 a0_2 a0_3)))) else (some (-1)))
theorem spec_OrderOf.mono_l : ∀ k, (∀ y0 y1 y2 y3 y4, LeO (spec_OrderOf.j0 k y0 y1 y2 y3 y4) (spec_OrderOf.j0 (k + 1) y0 y1 y2 y3 y4)) ∧ (∀ y0 y1 y2 y3 y4 y5 y6 y7 y8, LeO (spec_OrderOf.l0 k y0 y1 y2 y3 y4 y5 y6 y7 y8) (spec_OrderOf.l0 (k + 1) y0 y1 y2 y3 y4 y5 y6 y7 y8))
 | 0 => ⟨fun _ _ _ _ _ r h => by simp [spec_OrderOf.j0] at h, fun _ _ _ _ _ _ _ _ _ r h => by simp [spec_OrderOf.l0] at h⟩
 | k + 1 => by
  obtain ⟨ih0, ih1⟩ := spec_OrderOf.mono_l k
  have i0 := fun z0 z1 z2 z3 z4 => MoO.mk (ih0 z0 z1 z2 z3 z4)
  have i1 := fun z0 z1 z2 z3 z4 z5 z6 z7 z8 => MoO.mk (ih1 z0 z1 z2 z3 z4 z5 z6 z7 z8)
  refine ⟨?_, ?_⟩
  ·intro y0 y1 y2 y3 y4
   unfold spec_OrderOf.j0
   exact mo_
  intro y0 y1 y2 y3 y4 y5 y6 y7 y8
  unfold spec_OrderOf.l0
  exact mo_
theorem spec_OrderOf.mono : ∀ a0 a1 a2 a3 k, LeO (spec_OrderOf.f k a0 a1 a2 a3) (spec_OrderOf.f (k + 1) a0 a1 a2 a3) := by
 intro a0 a1 a2 a3 k
 obtain ⟨ih0, ih1⟩ := spec_OrderOf.mono_l k
 have i0 := fun z0 z1 z2 z3 z4 => MoO.mk (ih0 z0 z1 z2 z3 z4)
 have i1 := fun z0 z1 z2 z3 z4 z5 z6 z7 z8 => MoO.mk (ih1 z0 z1 z2 z3 z4 z5 z6 z7 z8)
 unfold spec_OrderOf.f
 exact mo_
instance spec_OrderOf.mi {a0 a1 a2 a3 k} : MoO (spec_OrderOf.f k a0 a1 a2 a3) (spec_OrderOf.f (k + 1) a0 a1 a2 a3) := ⟨spec_OrderOf.mono _ _ _ _ _⟩
set_option maxHeartbeats 8000000 in
set_option maxRecDepth 100000 in
theorem spec_OrderOf.calls (k : Nat) (a0_0 : Int) (a0_1 : Int) (a0_2 : Int) (a0_3 : Int) (r : Int) (w : World) (h : spec_OrderOf.f k a0_0 a0_1 a0_2 a0_3 = some r) :
  Calls Tryd.prog 30 #[.agg #[.int .i64 a0_0, .int .i64 a0_1, .int .i64 a0_2, .int .i64 a0_3]] w fun e w' => e = .returned (.int .i64 r) ∧ Below w.heap.size w w' := by
 have hu25 := Tryd.underlying25
 have HB := Az.mk (Below.refl w.heap.size w)
 have H : ((spec_IsMatrix.f k a0_0 a0_1 a0_2 a0_3).bind fun t448 => (if t448 = true then ((spec_KindOf.f k a0_0 a0_1 a0_2 a0_3).bind fun t449 => (if t449.toList = ([116, 119, 105, 115, 116] : List UInt8) then (spec_OrderOf.j0 k true a0_0 a0_1 a0_2 a0_3) else ((spec_KindOf.f k a0_0 a0_1 a0_2 a0_3).bind fun t450 => (spec_OrderOf.j0 k (t450.toList == ([115, 116, 114, 101, 116, 99, 104] : List UInt8)) a0_0 a0_1 a0_2 a0_3)))) else (some (-1)))) = some r := h
 clear h
 replace H := bez H
 obtain ⟨t448, A2, H⟩ := H
 try dsimp only at H
 by_cases c3 : t448 = true
 rotate_left
 ·replace c3 := Bool.eq_false_iff.mpr c3
  subst c3
  rw [if_neg (show ¬ (false = true) by decide)] at H
  obtain rfl := Option.some.inj H
  go_enter Tryd.func30, Tryd.ntmps30
  go_wp2_with (first | ((with_reducible refine gtD (N := 1) rfl ?_); refine bx (N := 1) (cs := #[.int .i64 a0_0, .int .i64 a0_1, .int .i64 a0_2, .int .i64 a0_3]) (t := 25) ?_; intro gb447 hg w46 hbox hb; have BK447 := Az.mk (hbox); have GW447 := gwz hg bw_22; have GE447 := gwz hg bw_22; replace HB := Az.mk (bwT bw_22 hb); clear hb hbox hg; obtain ⟨hcz47_0, hcz47_1, hcz47_2, hcz47_3, hfz47_0, hfz47_1, hfz47_2, hfz47_3⟩ := bq4 BK447) | ((with_reducible refine gtC (f := 22) rfl ?_); refine clz Tryd.func22 (some 6) #[.agg #[.int .i64 a0_0, .int .i64 a0_1, .int .i64 a0_2, .int .i64 a0_3]] ?_; (with_reducible refine (spec_IsMatrix.calls k a0_0 a0_1 a0_2 a0_3 false _ A2.out).mono ?_); rintro e w48 ⟨rfl, hb⟩; refine ⟨_, rfl, ?_⟩; replace BK447 := bkz BK447 hb; replace HB := Az.mk (bwT bw_22 hb); (try clear hb)))
  go_ret
  exact ⟨rq1, bw_22⟩
 subst c3
 rw [if_pos rfl] at H
 have HC4 := Az.mk H
 clear H
 go_enter Tryd.func30, Tryd.ntmps30
 go_upto_region 3 with (first | ((with_reducible refine gtD (N := 1) rfl ?_); refine bx (N := 1) (cs := #[.int .i64 a0_0, .int .i64 a0_1, .int .i64 a0_2, .int .i64 a0_3]) (t := 25) ?_; intro gb447 hg w5 hbox hb; have BK447 := Az.mk (hbox); have GW447 := gwz hg bw_22; have GE447 := gwz hg bw_22; replace HB := Az.mk (bwT bw_22 hb); clear hb hbox hg; obtain ⟨hcz6_0, hcz6_1, hcz6_2, hcz6_3, hfz6_0, hfz6_1, hfz6_2, hfz6_3⟩ := bq4 BK447) | ((with_reducible refine gtC (f := 22) rfl ?_); refine clz Tryd.func22 (some 6) #[.agg #[.int .i64 a0_0, .int .i64 a0_1, .int .i64 a0_2, .int .i64 a0_3]] ?_; (with_reducible refine (spec_IsMatrix.calls k a0_0 a0_1 a0_2 a0_3 true _ A2.out).mono ?_); rintro e w7 ⟨rfl, hb⟩; refine ⟨_, rfl, ?_⟩; replace BK447 := bkz BK447 hb; replace HB := Az.mk (bwT bw_22 hb); (try clear hb)))
 (try simp only [Act.put, List.setIfInBounds_toArray, List.set_cons_zero, List.set_cons_succ])
 go_cut [15] (fun v15 wc => ∃ (kq : Nat) (x15_3 : Bool), v15 = .bool x15_3 ∧ Az (spec_OrderOf.j0 kq x15_3 a0_0 a0_1 a0_2 a0_3 = some r) ∧ Az (kq ≤ k) ∧ Az (wc.heap[gb447]? = some (.cells #[.int .i64 a0_0, .int .i64 a0_1, .int .i64 a0_2, .int .i64 a0_3] 25 (0, 0))) ∧ Az (Below w.heap.size w wc))
 case first =>
  have H := HC4.out
  clear HC4
  replace H := bez H
  obtain ⟨t449, A8, H⟩ := H
  try dsimp only at H
  by_cases c9 : t449.toList = ([116, 119, 105, 115, 116] : List UInt8)
  ·rw [if_pos c9] at H
   have c9b0 : (t449.toList == ([116, 119, 105, 115, 116] : List UInt8)) = true := beq_iff_eq.mpr c9
   have c9b1 : (t449.toList != ([116, 119, 105, 115, 116] : List UInt8)) = false := bne_eq_false_iff_eq.mpr c9
   clear c9
   (first | rw [c9b0] | (simp only [i64_w, i32_w]; rw [c9b0]) | skip)
   have H' := Az.mk H
   clear H
   have hcz10_0 := bkc0 BK447
   have hcz10_1 := bkc1 BK447
   have hcz10_2 := bkc2 BK447
   have hcz10_3 := bkc3 BK447
   have hfz10_0 := bkF BK447.out 0
   have hfz10_1 := bkF BK447.out 1
   have hfz10_2 := bkF BK447.out 2
   have hfz10_3 := bkF BK447.out 3
   go_wp2_with (first | ((with_reducible refine gtC (f := 28) rfl ?_); refine clz Tryd.func28 (some 9) #[.agg #[.int .i64 a0_0, .int .i64 a0_1, .int .i64 a0_2, .int .i64 a0_3]] ?_; (with_reducible refine (spec_KindOf.calls k a0_0 a0_1 a0_2 a0_3 t449 _ A8.out).mono ?_); rintro e w11 ⟨rfl, hb⟩; refine ⟨_, rfl, ?_⟩; replace BK447 := bkz BK447 hb; replace HB := Az.mk (bwT bw_22 hb); (try clear hb)))
   go_meet
   case rel => exact ⟨_, (true), rq2, H', ⟨by first | omega | exact Nat.le_refl _⟩, ⟨bk1 BK447⟩, ⟨bw_22⟩⟩
  rw [if_neg c9] at H
  have c9b0 : (t449.toList == ([116, 119, 105, 115, 116] : List UInt8)) = false := beq_eq_false_iff_ne.mpr c9
  have c9b1 : (t449.toList != ([116, 119, 105, 115, 116] : List UInt8)) = true := bne_iff_ne.mpr c9
  (first | rw [c9b0] | (simp only [i64_w, i32_w]; rw [c9b0]) | skip)
  replace H := bez H
  obtain ⟨t450, A12, H⟩ := H
  try dsimp only at H
  have H' := Az.mk H
  clear H
  have hcz13_0 := bkc0 BK447
  have hcz13_1 := bkc1 BK447
  have hcz13_2 := bkc2 BK447
  have hcz13_3 := bkc3 BK447
  have hfz13_0 := bkF BK447.out 0
  have hfz13_1 := bkF BK447.out 1
  have hfz13_2 := bkF BK447.out 2
  have hfz13_3 := bkF BK447.out 3
  go_wp2_with (first | ((with_reducible refine gtC (f := 28) rfl ?_); refine clz Tryd.func28 (some 9) #[.agg #[.int .i64 a0_0, .int .i64 a0_1, .int .i64 a0_2, .int .i64 a0_3]] ?_; (with_reducible refine (spec_KindOf.calls k a0_0 a0_1 a0_2 a0_3 t449 _ A8.out).mono ?_); rintro e w14 ⟨rfl, hb⟩; refine ⟨_, rfl, ?_⟩; replace BK447 := bkz BK447 hb; replace HB := Az.mk (bwT bw_22 hb); (try clear hb); obtain ⟨hcz15_0, hcz15_1, hcz15_2, hcz15_3, hfz15_0, hfz15_1, hfz15_2, hfz15_3⟩ := bq4 BK447) | (go_at_call 28; (with_reducible refine (spec_KindOf.calls k a0_0 a0_1 a0_2 a0_3 t450 _ A12.out).mono ?_); rintro e w16 ⟨rfl, hb⟩; replace BK447 := bkz BK447 hb; replace HB := Az.mk (bwT bw_22 hb); (try clear hb)))
  go_meet
  case rel => exact ⟨_, ((t450.toList == ([115, 116, 114, 101, 116, 99, 104] : List UInt8))), rq2, H', ⟨by first | omega | exact Nat.le_refl _⟩, ⟨bk1 BK447⟩, ⟨bw_22⟩⟩
 clear HC4
 try clear c3
 try clear c9
 try clear c9b0
 try clear c9b1
 try clear hcz10_0
 try clear hcz10_1
 try clear hcz10_2
 try clear hcz10_3
 try clear hcz13_0
 try clear hcz13_1
 try clear hcz13_2
 try clear hcz13_3
 try clear hcz15_0
 try clear hcz15_1
 try clear hcz15_2
 try clear hcz15_3
 try clear hcz6_0
 try clear hcz6_1
 try clear hcz6_2
 try clear hcz6_3
 try clear hfz10_0
 try clear hfz10_1
 try clear hfz10_2
 try clear hfz10_3
 try clear hfz13_0
 try clear hfz13_1
 try clear hfz13_2
 try clear hfz13_3
 try clear hfz15_0
 try clear hfz15_1
 try clear hfz15_2
 try clear hfz15_3
 try clear hfz6_0
 try clear hfz6_1
 try clear hfz6_2
 try clear hfz6_3
 obtain ⟨kq, x15_3, rfl, HA, HJ3, BK447, HB⟩ := hcut
 cases kq with
 | zero => exact absurd HA.out (by simp [spec_OrderOf.j0])
 | succ kj3 =>
  have H := HA.out
  clear HA
  simp only [spec_OrderOf.j0] at H
  by_cases c17 : x15_3 = true
  ·subst c17
   rw [if_pos rfl] at H
   obtain rfl := Option.some.inj H
   go_wp2
   go_ret
   exact ⟨rq1, bw_22⟩
  replace c17 := Bool.eq_false_iff.mpr c17
  subst c17
  rw [if_neg (show ¬ (false = true) by decide)] at H
  have H' := Az.mk H
  clear H
  have hcz18_0 := bkc0 BK447
  have hcz18_1 := bkc1 BK447
  have hcz18_2 := bkc2 BK447
  have hcz18_3 := bkc3 BK447
  have hfz18_0 := bkF BK447.out 0
  have hfz18_1 := bkF BK447.out 1
  have hfz18_2 := bkF BK447.out 2
  have hfz18_3 := bkF BK447.out 3
  go_wp2_with (first | ((with_reducible refine gtD (N := 3) rfl ?_); refine bx (N := 3) (cs := #[.int .i64 0, .int .i64 0, .int .i64 0, .int .i64 0]) (t := 25) ?_; intro gb451 hg w19 hbox hb; have BK451 := Az.mk (hbox); have GW451 := gwz hg bw_22; have GE451 := gwz hg bw_22; replace HB := Az.mk (bwT bw_22 hb); have NB447_451 := nlt BK447 hg; have NB451_447 := ngt BK447 hg; replace BK447 := bkz BK447 hb; clear hb hbox hg; have hnb20 := NB451_447.out; have hnc20 := NB447_451.out; obtain ⟨hcz21_0, hcz21_1, hcz21_2, hcz21_3, hfz21_0, hfz21_1, hfz21_2, hfz21_3⟩ := bq4 BK451))
  go_loopg [4] kj3 (fun kq v4 w' => ∃ (x4_2 : Int) (x452000_2 : Int) (x452001_2 : Int) (x452002_2 : Int) (x452003_2 : Int), v4 = .int .i64 x4_2 ∧ Az (spec_OrderOf.l0 kq x4_2 a0_0 a0_1 a0_2 a0_3 x452000_2 x452001_2 x452002_2 x452003_2 = some r) ∧ Az (kq ≤ kj3) ∧ Az (w'.heap[gb447]? = some (.cells #[.int .i64 a0_0, .int .i64 a0_1, .int .i64 a0_2, .int .i64 a0_3] 25 (0, 0))) ∧ Az (w'.heap[gb451]? = some (.cells #[.int .i64 x452000_2, .int .i64 x452001_2, .int .i64 x452002_2, .int .i64 x452003_2] 25 (0, 0))) ∧ Az (Below w.heap.size w w'))
  case atStart => exact ⟨(1), (a0_0), (a0_1), (a0_2), (a0_3), rq2, H', ⟨Nat.le_refl _⟩, ⟨bkv⟩, ⟨bkv⟩, ⟨bw_22⟩⟩
  clear H'
  try clear c3
  try clear c9
  try clear c9b0
  try clear c9b1
  try clear c17
  try clear hcz10_0
  try clear hcz10_1
  try clear hcz10_2
  try clear hcz10_3
  try clear hcz13_0
  try clear hcz13_1
  try clear hcz13_2
  try clear hcz13_3
  try clear hcz15_0
  try clear hcz15_1
  try clear hcz15_2
  try clear hcz15_3
  try clear hcz18_0
  try clear hcz18_1
  try clear hcz18_2
  try clear hcz18_3
  try clear hcz21_0
  try clear hcz21_1
  try clear hcz21_2
  try clear hcz21_3
  try clear hcz6_0
  try clear hcz6_1
  try clear hcz6_2
  try clear hcz6_3
  try clear hfz10_0
  try clear hfz10_1
  try clear hfz10_2
  try clear hfz10_3
  try clear hfz13_0
  try clear hfz13_1
  try clear hfz13_2
  try clear hfz13_3
  try clear hfz15_0
  try clear hfz15_1
  try clear hfz15_2
  try clear hfz15_3
  try clear hfz18_0
  try clear hfz18_1
  try clear hfz18_2
  try clear hfz18_3
  try clear hfz21_0
  try clear hfz21_1
  try clear hfz21_2
  try clear hfz21_3
  try clear hfz6_0
  try clear hfz6_1
  try clear hfz6_2
  try clear hfz6_3
  obtain ⟨x4_2, x452000_2, x452001_2, x452002_2, x452003_2, rfl, HA, HK2, BK447, BK451, HB⟩ := hrel
  cases gk with
  | zero => exact absurd HA.out (by simp [spec_OrderOf.l0])
  | succ k2 =>
   have H := HA.out
   clear HA
   simp only [spec_OrderOf.l0] at H
   by_cases c22 : x4_2 ≤ 6
   rotate_left
   ·rw [if_neg c22] at H
    have c22b0 : decide (x4_2 ≤ 6) = false := decide_eq_false c22
    clear c22
    obtain rfl := Option.some.inj H
    go_wp2
    go_ret
    exact ⟨rq1, bw_22⟩
   rw [if_pos c22] at H
   have c22b0 : decide (x4_2 ≤ 6) = true := decide_eq_true c22
   clear c22
   by_cases c23 : x452000_2 = 1
   rotate_left
   ·rw [if_neg c23] at H
    have c23b0 : (x452000_2 == 1) = false := beq_eq_false_iff_ne.mpr c23
    have c23b1 : (x452000_2 != 1) = true := bne_iff_ne.mpr c23
    replace H := bez H
    obtain ⟨⟨t460, t461, t462, t463⟩, A40, H⟩ := H
    try dsimp only at H
    have H' := Az.mk H
    clear H
    have hnb41 := NB451_447.out
    have hnc41 := NB447_451.out
    have hcz42_0 := bkc0 BK451
    have hcz42_1 := bkc1 BK451
    have hcz42_2 := bkc2 BK451
    have hcz42_3 := bkc3 BK451
    have hfz42_0 := bkF BK451.out 0
    have hfz42_1 := bkF BK451.out 1
    have hfz42_2 := bkF BK451.out 2
    have hfz42_3 := bkF BK451.out 3
    have hcz43_0 := bkc0 BK447
    have hcz43_1 := bkc1 BK447
    have hcz43_2 := bkc2 BK447
    have hcz43_3 := bkc3 BK447
    have hfz43_0 := bkF BK447.out 0
    have hfz43_1 := bkF BK447.out 1
    have hfz43_2 := bkF BK447.out 2
    have hfz43_3 := bkF BK447.out 3
    go_wp2_with (first | ((with_reducible refine gtC (f := 39) rfl ?_); refine clz Tryd.func39 (some 37) #[.agg #[.int .i64 x452000_2, .int .i64 x452001_2, .int .i64 x452002_2, .int .i64 x452003_2], .agg #[.int .i64 a0_0, .int .i64 a0_1, .int .i64 a0_2, .int .i64 a0_3]] ?_; (with_reducible refine (spec_l13Times.calls x452000_2 x452001_2 x452002_2 x452003_2 a0_0 a0_1 a0_2 a0_3 t460 t461 t462 t463 _ A40.out).mono ?_); rintro e w44 ⟨rfl, hb⟩; refine ⟨_, rfl, ?_⟩; replace BK447 := bkz BK447 hb; replace BK451 := bkz BK451 hb; replace HB := Az.mk (bwT bw_22 hb); (try clear hb); obtain ⟨hcz45_0, hcz45_1, hcz45_2, hcz45_3, hfz45_0, hfz45_1, hfz45_2, hfz45_3⟩ := bq4 BK451))
    go_roundg k2
    case measure => have := HJ3.out; have := HK2.out; omega
    case rel => exact ⟨(wrap64 (x4_2 + 1)), (t460), (t461), (t462), (t463), rq2, H', ⟨by have := HJ3.out; have := HK2.out; omega⟩, ⟨bkv⟩, ⟨bkv⟩, ⟨bw_22⟩⟩
   rw [if_pos c23] at H
   have c23b0 : (x452000_2 == 1) = true := beq_iff_eq.mpr c23
   have c23b1 : (x452000_2 != 1) = false := bne_eq_false_iff_eq.mpr c23
   clear c23
   by_cases c24 : x452001_2 = 0
   rotate_left
   ·rw [if_neg c24] at H
    have c24b0 : (x452001_2 == 0) = false := beq_eq_false_iff_ne.mpr c24
    have c24b1 : (x452001_2 != 0) = true := bne_iff_ne.mpr c24
    replace H := bez H
    obtain ⟨⟨t456, t457, t458, t459⟩, A34, H⟩ := H
    try dsimp only at H
    have H' := Az.mk H
    clear H
    have hnb35 := NB451_447.out
    have hnc35 := NB447_451.out
    have hcz36_0 := bkc0 BK451
    have hcz36_1 := bkc1 BK451
    have hcz36_2 := bkc2 BK451
    have hcz36_3 := bkc3 BK451
    have hfz36_0 := bkF BK451.out 0
    have hfz36_1 := bkF BK451.out 1
    have hfz36_2 := bkF BK451.out 2
    have hfz36_3 := bkF BK451.out 3
    have hcz37_0 := bkc0 BK447
    have hcz37_1 := bkc1 BK447
    have hcz37_2 := bkc2 BK447
    have hcz37_3 := bkc3 BK447
    have hfz37_0 := bkF BK447.out 0
    have hfz37_1 := bkF BK447.out 1
    have hfz37_2 := bkF BK447.out 2
    have hfz37_3 := bkF BK447.out 3
    go_wp2_with (first | ((with_reducible refine gtC (f := 39) rfl ?_); refine clz Tryd.func39 (some 37) #[.agg #[.int .i64 x452000_2, .int .i64 x452001_2, .int .i64 x452002_2, .int .i64 x452003_2], .agg #[.int .i64 a0_0, .int .i64 a0_1, .int .i64 a0_2, .int .i64 a0_3]] ?_; (with_reducible refine (spec_l13Times.calls x452000_2 x452001_2 x452002_2 x452003_2 a0_0 a0_1 a0_2 a0_3 t456 t457 t458 t459 _ A34.out).mono ?_); rintro e w38 ⟨rfl, hb⟩; refine ⟨_, rfl, ?_⟩; replace BK447 := bkz BK447 hb; replace BK451 := bkz BK451 hb; replace HB := Az.mk (bwT bw_22 hb); (try clear hb); obtain ⟨hcz39_0, hcz39_1, hcz39_2, hcz39_3, hfz39_0, hfz39_1, hfz39_2, hfz39_3⟩ := bq4 BK451))
    go_roundg k2
    case measure => have := HJ3.out; have := HK2.out; omega
    case rel => exact ⟨(wrap64 (x4_2 + 1)), (t456), (t457), (t458), (t459), rq2, H', ⟨by have := HJ3.out; have := HK2.out; omega⟩, ⟨bkv⟩, ⟨bkv⟩, ⟨bw_22⟩⟩
   rw [if_pos c24] at H
   have c24b0 : (x452001_2 == 0) = true := beq_iff_eq.mpr c24
   have c24b1 : (x452001_2 != 0) = false := bne_eq_false_iff_eq.mpr c24
   clear c24
   by_cases c25 : x452002_2 = 0
   ·rw [if_pos c25] at H
    have c25b0 : (x452002_2 == 0) = true := beq_iff_eq.mpr c25
    have c25b1 : (x452002_2 != 0) = false := bne_eq_false_iff_eq.mpr c25
    clear c25
    obtain rfl := Option.some.inj H
    have hnb26 := NB451_447.out
    have hnc26 := NB447_451.out
    have hcz27_0 := bkc0 BK451
    have hcz27_1 := bkc1 BK451
    have hcz27_2 := bkc2 BK451
    have hcz27_3 := bkc3 BK451
    have hfz27_0 := bkF BK451.out 0
    have hfz27_1 := bkF BK451.out 1
    have hfz27_2 := bkF BK451.out 2
    have hfz27_3 := bkF BK451.out 3
    go_wp2
    go_ret
    exact ⟨rq1, bw_22⟩
   rw [if_neg c25] at H
   have c25b0 : (x452002_2 == 0) = false := beq_eq_false_iff_ne.mpr c25
   have c25b1 : (x452002_2 != 0) = true := bne_iff_ne.mpr c25
   replace H := bez H
   obtain ⟨⟨t452, t453, t454, t455⟩, A28, H⟩ := H
   try dsimp only at H
   have H' := Az.mk H
   clear H
   have hnb29 := NB451_447.out
   have hnc29 := NB447_451.out
   have hcz30_0 := bkc0 BK451
   have hcz30_1 := bkc1 BK451
   have hcz30_2 := bkc2 BK451
   have hcz30_3 := bkc3 BK451
   have hfz30_0 := bkF BK451.out 0
   have hfz30_1 := bkF BK451.out 1
   have hfz30_2 := bkF BK451.out 2
   have hfz30_3 := bkF BK451.out 3
   have hcz31_0 := bkc0 BK447
   have hcz31_1 := bkc1 BK447
   have hcz31_2 := bkc2 BK447
   have hcz31_3 := bkc3 BK447
   have hfz31_0 := bkF BK447.out 0
   have hfz31_1 := bkF BK447.out 1
   have hfz31_2 := bkF BK447.out 2
   have hfz31_3 := bkF BK447.out 3
   go_wp2_with (first | ((with_reducible refine gtC (f := 39) rfl ?_); refine clz Tryd.func39 (some 37) #[.agg #[.int .i64 x452000_2, .int .i64 x452001_2, .int .i64 x452002_2, .int .i64 x452003_2], .agg #[.int .i64 a0_0, .int .i64 a0_1, .int .i64 a0_2, .int .i64 a0_3]] ?_; (with_reducible refine (spec_l13Times.calls x452000_2 x452001_2 x452002_2 x452003_2 a0_0 a0_1 a0_2 a0_3 t452 t453 t454 t455 _ A28.out).mono ?_); rintro e w32 ⟨rfl, hb⟩; refine ⟨_, rfl, ?_⟩; replace BK447 := bkz BK447 hb; replace BK451 := bkz BK451 hb; replace HB := Az.mk (bwT bw_22 hb); (try clear hb); obtain ⟨hcz33_0, hcz33_1, hcz33_2, hcz33_3, hfz33_0, hfz33_1, hfz33_2, hfz33_3⟩ := bq4 BK451))
   go_roundg k2
   case measure => have := HJ3.out; have := HK2.out; omega
   case rel => exact ⟨(wrap64 (x4_2 + 1)), (t452), (t453), (t454), (t455), rq2, H', ⟨by have := HJ3.out; have := HK2.out; omega⟩, ⟨bkv⟩, ⟨bkv⟩, ⟨bw_22⟩⟩

end Go.Proofs.YtnoiijdffdpabaaDoor.P
