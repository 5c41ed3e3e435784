-- By this session's driver (wip/tools/mk.py) of the kit's print program, over several statements at once. Not trusted: Lean checks it.
import Derived.Test.YtnoiijdffdpabaaDoorQWZip
import Derived.Test.YtnoiijdffdpabaaDoorQPx0
import Derived.Test.YtnoiijdffdpabaaDoorQPx2
namespace Go.Proofs.YtnoiijdffdpabaaDoor.P
open Go.RowKit Go.Proofs.YtnoiijdffdpabaaDoorW.PrintWords Go.Proofs.YtnoiijdffdpabaaDoorW.PrintLast Go.Proofs.YtnoiijdffdpabaaDoorW.PrintMore
attribute [local go_sem] max2_int min2_int max_two min_two max_three min_three max_four min_four   -- for this text's walks alone
set_option linter.unusedVariables false
set_option linter.unusedSimpArgs false
theorem bw_20 {n : Nat} {v v' : World} (h : Below n v v' := by repeat (first | (with_reducible first | exact HB.out | apply bwA | apply pbN | apply bwD | refine bwS ?_ GE429.out) | exact HB.out)) : Below n v v' := h
theorem ln_20 {P : Prop} (h : P := by (try simp only [List.map_toArray, List.map_cons, List.map_nil]); first | done | rfl | (simp only [List.length_drop, List.length_take]; rfl)) : P := h

/-! ### spec_KindOf: function 28 -/
def spec_KindOf.j0 : Nat → Bool → Int → Int → Int → Int → Option (ByteArray)
 | 0, _, _, _, _, _ => none
 | k + 1, x7, x430000, x430001, x430002, x430003 => if x7 = true then (some (⟨#[105, 100, 101, 110, 116, 105, 116, 121]⟩ : ByteArray)) else ((spec_l1In.f (wrap64 (x430000 + x430003)) (-1) 1).bind fun t431 => (if t431 = true then (some (⟨#[112, 101, 114, 105, 111, 100, 105, 99]⟩ : ByteArray)) else ((spec_l1In.f (wrap64 (x430000 + x430003)) (-2) 2).bind fun t432 => (if t432 = true then (some (⟨#[116, 119, 105, 115, 116]⟩ : ByteArray)) else (some (⟨#[115, 116, 114, 101, 116, 99, 104]⟩ : ByteArray))))))
def spec_KindOf.f (k : Nat) (a0_0 : Int) (a0_1 : Int) (a0_2 : Int) (a0_3 : Int) : Option (ByteArray) := (spec_IsMatrix.f k a0_0 a0_1 a0_2 a0_3).bind fun t430 => (if t430 = true then (if a0_1 = 0 then (spec_KindOf.j0 k (a0_2 == 0) a0_0 a0_1 a0_2 a0_3) else (spec_KindOf.j0 k false a0_0 a0_1 a0_2 a0_3)) else (some (⟨#[]⟩ : ByteArray)))
theorem spec_KindOf.mono_l : ∀ k, (∀ y0 y1 y2 y3 y4, LeO (spec_KindOf.j0 k y0 y1 y2 y3 y4) (spec_KindOf.j0 (k + 1) y0 y1 y2 y3 y4))
 | 0 => fun _ _ _ _ _ r h => by simp [spec_KindOf.j0] at h
 | k + 1 => by
  have ih0 := spec_KindOf.mono_l k
  have i0 := fun z0 z1 z2 z3 z4 => MoO.mk (ih0 z0 z1 z2 z3 z4)
  ·intro y0 y1 y2 y3 y4
   unfold spec_KindOf.j0
   exact mo_
theorem spec_KindOf.mono : ∀ a0 a1 a2 a3 k, LeO (spec_KindOf.f k a0 a1 a2 a3) (spec_KindOf.f (k + 1) a0 a1 a2 a3) := by
 intro a0 a1 a2 a3 k
 have ih0 := spec_KindOf.mono_l k
 have i0 := fun z0 z1 z2 z3 z4 => MoO.mk (ih0 z0 z1 z2 z3 z4)
 unfold spec_KindOf.f
 exact mo_
instance spec_KindOf.mi {a0 a1 a2 a3 k} : MoO (spec_KindOf.f k a0 a1 a2 a3) (spec_KindOf.f (k + 1) a0 a1 a2 a3) := ⟨spec_KindOf.mono _ _ _ _ _⟩
set_option maxHeartbeats 8000000 in
set_option maxRecDepth 100000 in
theorem spec_KindOf.calls (k : Nat) (a0_0 : Int) (a0_1 : Int) (a0_2 : Int) (a0_3 : Int) (r : ByteArray) (w : World) (h : spec_KindOf.f k a0_0 a0_1 a0_2 a0_3 = some r) :
  Calls Tryd.prog 28 #[.agg #[.int .i64 a0_0, .int .i64 a0_1, .int .i64 a0_2, .int .i64 a0_3]] w fun e w' => e = .returned (.string r) ∧ Below w.heap.size w w' := by
 have hu25 := Tryd.underlying25
 have HB := Az.mk (Below.refl w.heap.size w)
 have H : ((spec_IsMatrix.f k a0_0 a0_1 a0_2 a0_3).bind fun t430 => (if t430 = true then (if a0_1 = 0 then (spec_KindOf.j0 k (a0_2 == 0) a0_0 a0_1 a0_2 a0_3) else (spec_KindOf.j0 k false a0_0 a0_1 a0_2 a0_3)) else (some (⟨#[]⟩ : ByteArray)))) = some r := h
 clear h
 replace H := bez H
 obtain ⟨t430, A2, H⟩ := H
 try dsimp only at H
 by_cases c3 : t430 = true
 rotate_left
 ·replace c3 := Bool.eq_false_iff.mpr c3
  subst c3
  rw [if_neg (show ¬ (false = true) by decide)] at H
  obtain rfl := Option.some.inj H
  go_enter Tryd.func28, Tryd.ntmps28
  go_wp2_with (first | ((with_reducible refine gtD (N := 1) rfl ?_); refine bx (N := 1) (cs := #[.int .i64 a0_0, .int .i64 a0_1, .int .i64 a0_2, .int .i64 a0_3]) (t := 25) ?_; intro gb429 hg w19 hbox hb; have BK429 := Az.mk (hbox); have GW429 := gwz hg bw_20; have GE429 := gwz hg bw_20; replace HB := Az.mk (bwT bw_20 hb); clear hb hbox hg; obtain ⟨hcz20_0, hcz20_1, hcz20_2, hcz20_3, hfz20_0, hfz20_1, hfz20_2, hfz20_3⟩ := bq4 BK429) | ((with_reducible refine gtC (f := 22) rfl ?_); refine clz Tryd.func22 (some 5) #[.agg #[.int .i64 a0_0, .int .i64 a0_1, .int .i64 a0_2, .int .i64 a0_3]] ?_; (with_reducible refine (spec_IsMatrix.calls k a0_0 a0_1 a0_2 a0_3 false _ A2.out).mono ?_); rintro e w21 ⟨rfl, hb⟩; refine ⟨_, rfl, ?_⟩; replace BK429 := bkz BK429 hb; replace HB := Az.mk (bwT bw_20 hb); (try clear hb)))
  go_ret
  exact ⟨rq1, bw_20⟩
 subst c3
 rw [if_pos rfl] at H
 have HC4 := Az.mk H
 clear H
 go_enter Tryd.func28, Tryd.ntmps28
 go_upto_region 3 with (first | ((with_reducible refine gtD (N := 1) rfl ?_); refine bx (N := 1) (cs := #[.int .i64 a0_0, .int .i64 a0_1, .int .i64 a0_2, .int .i64 a0_3]) (t := 25) ?_; intro gb429 hg w5 hbox hb; have BK429 := Az.mk (hbox); have GW429 := gwz hg bw_20; have GE429 := gwz hg bw_20; replace HB := Az.mk (bwT bw_20 hb); clear hb hbox hg; obtain ⟨hcz6_0, hcz6_1, hcz6_2, hcz6_3, hfz6_0, hfz6_1, hfz6_2, hfz6_3⟩ := bq4 BK429) | ((with_reducible refine gtC (f := 22) rfl ?_); refine clz Tryd.func22 (some 5) #[.agg #[.int .i64 a0_0, .int .i64 a0_1, .int .i64 a0_2, .int .i64 a0_3]] ?_; (with_reducible refine (spec_IsMatrix.calls k a0_0 a0_1 a0_2 a0_3 true _ A2.out).mono ?_); rintro e w7 ⟨rfl, hb⟩; refine ⟨_, rfl, ?_⟩; replace BK429 := bkz BK429 hb; replace HB := Az.mk (bwT bw_20 hb); (try clear hb)))
 (try simp only [Act.put, List.setIfInBounds_toArray, List.set_cons_zero, List.set_cons_succ])
 go_cut [7] (fun v7 wc => ∃ (kq : Nat) (x7_3 : Bool), v7 = .bool x7_3 ∧ Az (spec_KindOf.j0 kq x7_3 a0_0 a0_1 a0_2 a0_3 = some r) ∧ Az (kq ≤ k) ∧ Az (wc.heap[gb429]? = some (.cells #[.int .i64 a0_0, .int .i64 a0_1, .int .i64 a0_2, .int .i64 a0_3] 25 (0, 0))) ∧ Az (Below w.heap.size w wc))
 case first =>
  have H := HC4.out
  clear HC4
  by_cases c8 : a0_1 = 0
  rotate_left
  ·rw [if_neg c8] at H
   have c8b0 : (a0_1 == 0) = false := beq_eq_false_iff_ne.mpr c8
   have c8b1 : (a0_1 != 0) = true := bne_iff_ne.mpr c8
   (first | rw [c8b0] | (simp only [i64_w, i32_w]; rw [c8b0]) | skip)
   have H' := Az.mk H
   clear H
   have hcz10_0 := bkc0 BK429
   have hcz10_1 := bkc1 BK429
   have hcz10_2 := bkc2 BK429
   have hcz10_3 := bkc3 BK429
   have hfz10_0 := bkF BK429.out 0
   have hfz10_1 := bkF BK429.out 1
   have hfz10_2 := bkF BK429.out 2
   have hfz10_3 := bkF BK429.out 3
   go_wp2
   go_meet
   case rel => exact ⟨_, (false), rq2, H', ⟨by first | omega | exact Nat.le_refl _⟩, ⟨bk1 BK429⟩, ⟨bw_20⟩⟩
  rw [if_pos c8] at H
  have c8b0 : (a0_1 == 0) = true := beq_iff_eq.mpr c8
  have c8b1 : (a0_1 != 0) = false := bne_eq_false_iff_eq.mpr c8
  clear c8
  (first | rw [c8b0] | (simp only [i64_w, i32_w]; rw [c8b0]) | skip)
  have H' := Az.mk H
  clear H
  have hcz9_0 := bkc0 BK429
  have hcz9_1 := bkc1 BK429
  have hcz9_2 := bkc2 BK429
  have hcz9_3 := bkc3 BK429
  have hfz9_0 := bkF BK429.out 0
  have hfz9_1 := bkF BK429.out 1
  have hfz9_2 := bkF BK429.out 2
  have hfz9_3 := bkF BK429.out 3
  go_wp2
  go_meet
  case rel => exact ⟨_, ((a0_2 == 0)), rq2, H', ⟨by first | omega | exact Nat.le_refl _⟩, ⟨bk1 BK429⟩, ⟨bw_20⟩⟩
 clear HC4
 try clear c3
 try clear c8
 try clear c8b0
 try clear c8b1
 try clear hcz10_0
 try clear hcz10_1
 try clear hcz10_2
 try clear hcz10_3
 try clear hcz6_0
 try clear hcz6_1
 try clear hcz6_2
 try clear hcz6_3
 try clear hcz9_0
 try clear hcz9_1
 try clear hcz9_2
 try clear hcz9_3
 try clear hfz10_0
 try clear hfz10_1
 try clear hfz10_2
 try clear hfz10_3
 try clear hfz6_0
 try clear hfz6_1
 try clear hfz6_2
 try clear hfz6_3
 try clear hfz9_0
 try clear hfz9_1
 try clear hfz9_2
 try clear hfz9_3
 obtain ⟨kq, x7_3, rfl, HA, HJ3, BK429, HB⟩ := hcut
 cases kq with
 | zero => exact absurd HA.out (by simp [spec_KindOf.j0])
 | succ kj3 =>
  have H := HA.out
  clear HA
  simp only [spec_KindOf.j0] at H
  by_cases c11 : x7_3 = true
  ·subst c11
   rw [if_pos rfl] at H
   obtain rfl := Option.some.inj H
   go_wp2
   go_ret
   exact ⟨rq1, bw_20⟩
  replace c11 := Bool.eq_false_iff.mpr c11
  subst c11
  rw [if_neg (show ¬ (false = true) by decide)] at H
  replace H := bez H
  obtain ⟨t431, A12, H⟩ := H
  try dsimp only at H
  by_cases c13 : t431 = true
  ·subst c13
   rw [if_pos rfl] at H
   obtain rfl := Option.some.inj H
   have hcz14_0 := bkc0 BK429
   have hcz14_1 := bkc1 BK429
   have hcz14_2 := bkc2 BK429
   have hcz14_3 := bkc3 BK429
   have hfz14_0 := bkF BK429.out 0
   have hfz14_1 := bkF BK429.out 1
   have hfz14_2 := bkF BK429.out 2
   have hfz14_3 := bkF BK429.out 3
   go_wp2_with (first | ((with_reducible refine gtC (f := 55) rfl ?_); refine clz Tryd.func55 (some 22) #[.int .i64 (wrap64 (a0_0 + a0_3)), .int .i64 (-1), .int .i64 1] ?_; (with_reducible refine (spec_l1In.calls (wrap64 (a0_0 + a0_3)) (-1) 1 true _ A12.out).mono ?_); rintro e w' ⟨rfl, ⟨nd, rfl⟩⟩; refine ⟨_, rfl, ?_⟩))
   go_ret
   exact ⟨rq1, bw_20⟩
  replace c13 := Bool.eq_false_iff.mpr c13
  subst c13
  rw [if_neg (show ¬ (false = true) by decide)] at H
  replace H := bez H
  obtain ⟨t432, A15, H⟩ := H
  try dsimp only at H
  by_cases c16 : t432 = true
  ·subst c16
   rw [if_pos rfl] at H
   obtain rfl := Option.some.inj H
   have hcz17_0 := bkc0 BK429
   have hcz17_1 := bkc1 BK429
   have hcz17_2 := bkc2 BK429
   have hcz17_3 := bkc3 BK429
   have hfz17_0 := bkF BK429.out 0
   have hfz17_1 := bkF BK429.out 1
   have hfz17_2 := bkF BK429.out 2
   have hfz17_3 := bkF BK429.out 3
   go_wp2_with (first | ((with_reducible refine gtC (f := 55) rfl ?_); refine clz Tryd.func55 (some 22) #[.int .i64 (wrap64 (a0_0 + a0_3)), .int .i64 (-1), .int .i64 1] ?_; (with_reducible refine (spec_l1In.calls (wrap64 (a0_0 + a0_3)) (-1) 1 false _ A12.out).mono ?_); rintro e w' ⟨rfl, ⟨nd, rfl⟩⟩; refine ⟨_, rfl, ?_⟩) | ((with_reducible refine gtC (f := 55) rfl ?_); refine clz Tryd.func55 (some 29) #[.int .i64 (wrap64 (a0_0 + a0_3)), .int .i64 (-2), .int .i64 2] ?_; (with_reducible refine (spec_l1In.calls (wrap64 (a0_0 + a0_3)) (-2) 2 true _ A15.out).mono ?_); rintro e w' ⟨rfl, ⟨nd, rfl⟩⟩; refine ⟨_, rfl, ?_⟩))
   go_ret
   exact ⟨rq1, bw_20⟩
  replace c16 := Bool.eq_false_iff.mpr c16
  subst c16
  rw [if_neg (show ¬ (false = true) by decide)] at H
  obtain rfl := Option.some.inj H
  have hcz18_0 := bkc0 BK429
  have hcz18_1 := bkc1 BK429
  have hcz18_2 := bkc2 BK429
  have hcz18_3 := bkc3 BK429
  have hfz18_0 := bkF BK429.out 0
  have hfz18_1 := bkF BK429.out 1
  have hfz18_2 := bkF BK429.out 2
  have hfz18_3 := bkF BK429.out 3
  go_wp2_with (first | ((with_reducible refine gtC (f := 55) rfl ?_); refine clz Tryd.func55 (some 22) #[.int .i64 (wrap64 (a0_0 + a0_3)), .int .i64 (-1), .int .i64 1] ?_; (with_reducible refine (spec_l1In.calls (wrap64 (a0_0 + a0_3)) (-1) 1 false _ A12.out).mono ?_); rintro e w' ⟨rfl, ⟨nd, rfl⟩⟩; refine ⟨_, rfl, ?_⟩) | ((with_reducible refine gtC (f := 55) rfl ?_); refine clz Tryd.func55 (some 29) #[.int .i64 (wrap64 (a0_0 + a0_3)), .int .i64 (-2), .int .i64 2] ?_; (with_reducible refine (spec_l1In.calls (wrap64 (a0_0 + a0_3)) (-2) 2 false _ A15.out).mono ?_); rintro e w' ⟨rfl, ⟨nd, rfl⟩⟩; refine ⟨_, rfl, ?_⟩))
  go_ret
  exact ⟨rq1, bw_20⟩

end Go.Proofs.YtnoiijdffdpabaaDoor.P
