-- By this session's driver (wip/tools/mk.py) of the kit's print program, over several statements at once. Not trusted: Lean checks it.
import Derived.Test.YtnoiijdffdpabaaDoorQWZip
import Derived.Test.YtnoiijdffdpabaaDoorQPx0
import Derived.Test.YtnoiijdffdpabaaDoorQPx2
import Derived.Test.YtnoiijdffdpabaaDoorQPx5
import Derived.Test.YtnoiijdffdpabaaDoorQPx15
namespace Go.Proofs.YtnoiijdffdpabaaDoor.P
open Go.RowKit Go.Proofs.YtnoiijdffdpabaaDoorW.PrintWords Go.Proofs.YtnoiijdffdpabaaDoorW.PrintLast Go.Proofs.YtnoiijdffdpabaaDoorW.PrintMore
attribute [local go_sem] max2_int min2_int max_two min_two max_three min_three max_four min_four   -- for this text's walks alone
set_option linter.unusedVariables false
set_option linter.unusedSimpArgs false
theorem bw_18 {n : Nat} {v v' : World} (h : Below n v v' := by repeat (first | (with_reducible first | exact HB.out | apply bwA | apply pbN | apply bwD | refine bwS ?_ GE410.out | refine bwS ?_ GE412.out | refine bwS ?_ GE413.out | refine bwS ?_ GE415.out | refine bwS ?_ GE416.out | refine bwS ?_ GE418.out) | exact HB.out)) : Below n v v' := h
theorem ln_18 {P : Prop} (h : P := by (try simp only [List.map_toArray, List.map_cons, List.map_nil]); first | done | rfl | (simp only [List.length_drop, List.length_take]; rfl)) : P := h
open Option renaming bind_eq_some_iff → be

/-! ### spec_TurnsTo: function 20 -/
mutual
def spec_TurnsTo.j0 : Nat → ByteArray → Bool → Int → Int → Option (ByteArray)
 | 0, _, _, _, _ => none
 | k + 1, x3, x16, x411000, x411001 => if x16 = true then (some x3) else (spec_TurnsTo.l0 k x3 x411000 x411001)
def spec_TurnsTo.l0 : Nat → ByteArray → Int → Int → Option (ByteArray)
 | 0, _, _, _ => none
 | k + 1, x3, x411000, x411001 => if x411000 = x411001 then (if (x3.size : Int) > 24 then (some (⟨#[]⟩ : ByteArray)) else (some x3)) else (if x411000 > x411001 then (if x3.size + 1 ≤ 9223372036854775807 then (spec_TurnsTo.l0 k (x3 ++ (⟨#[82]⟩ : ByteArray)) (wrap64 (x411000 - x411001)) x411001) else (none)) else (if x3.size + 1 ≤ 9223372036854775807 then (spec_TurnsTo.l0 k (x3 ++ (⟨#[76]⟩ : ByteArray)) x411000 (wrap64 (x411001 - x411000))) else (none)))
end
def spec_TurnsTo.f (k : Nat) (a0_0 : Int) (a0_1 : Int) : Option (ByteArray) := (spec_IsSlope.f k a0_0 a0_1).bind fun t411 => (if t411 = true then (if a0_0 < 1 then (spec_TurnsTo.j0 k (⟨#[]⟩ : ByteArray) true a0_0 a0_1) else (spec_TurnsTo.j0 k (⟨#[]⟩ : ByteArray) (decide (a0_1 < 1)) a0_0 a0_1)) else (spec_TurnsTo.j0 k (⟨#[]⟩ : ByteArray) true a0_0 a0_1))
theorem spec_TurnsTo.mono_l : ∀ k, (∀ y0 y1 y2 y3, LeO (spec_TurnsTo.j0 k y0 y1 y2 y3) (spec_TurnsTo.j0 (k + 1) y0 y1 y2 y3)) ∧ (∀ y0 y1 y2, LeO (spec_TurnsTo.l0 k y0 y1 y2) (spec_TurnsTo.l0 (k + 1) y0 y1 y2))
 | 0 => ⟨fun _ _ _ _ r h => by simp [spec_TurnsTo.j0] at h, fun _ _ _ r h => by simp [spec_TurnsTo.l0] at h⟩
 | k + 1 => by
  obtain ⟨ih0, ih1⟩ := spec_TurnsTo.mono_l k
  have i0 := fun z0 z1 z2 z3 => MoO.mk (ih0 z0 z1 z2 z3)
  have i1 := fun z0 z1 z2 => MoO.mk (ih1 z0 z1 z2)
  refine ⟨?_, ?_⟩
  ·intro y0 y1 y2 y3
   unfold spec_TurnsTo.j0
   exact mo_
  intro y0 y1 y2
  unfold spec_TurnsTo.l0
  exact mo_
theorem spec_TurnsTo.mono : ∀ a0 a1 k, LeO (spec_TurnsTo.f k a0 a1) (spec_TurnsTo.f (k + 1) a0 a1) := by
 intro a0 a1 k
 obtain ⟨ih0, ih1⟩ := spec_TurnsTo.mono_l k
 have i0 := fun z0 z1 z2 z3 => MoO.mk (ih0 z0 z1 z2 z3)
 have i1 := fun z0 z1 z2 => MoO.mk (ih1 z0 z1 z2)
 unfold spec_TurnsTo.f
 exact mo_
instance spec_TurnsTo.mi {a0 a1 k} : MoO (spec_TurnsTo.f k a0 a1) (spec_TurnsTo.f (k + 1) a0 a1) := ⟨spec_TurnsTo.mono _ _ _⟩
set_option maxHeartbeats 8000000 in
set_option maxRecDepth 100000 in
theorem spec_TurnsTo.calls (k : Nat) (a0_0 : Int) (a0_1 : Int) (r : ByteArray) (w : World) (h : spec_TurnsTo.f k a0_0 a0_1 = some r) :
  Calls Tryd.prog 20 #[.agg #[.int .i64 a0_0, .int .i64 a0_1]] w fun e w' => e = .returned (.string r) ∧ Below w.heap.size w w' := by
 have hu35 := Tryd.underlying35
 have HB := Az.mk (Below.refl w.heap.size w)
 have H : ((spec_IsSlope.f k a0_0 a0_1).bind fun t411 => (if t411 = true then (if a0_0 < 1 then (spec_TurnsTo.j0 k (⟨#[]⟩ : ByteArray) true a0_0 a0_1) else (spec_TurnsTo.j0 k (⟨#[]⟩ : ByteArray) (decide (a0_1 < 1)) a0_0 a0_1)) else (spec_TurnsTo.j0 k (⟨#[]⟩ : ByteArray) true a0_0 a0_1))) = some r := h
 clear h
 have HC2 := Az.mk H
 clear H
 go_enter Tryd.func20, Tryd.ntmps20
 go_upto_region 2 with (first | ((with_reducible refine gtD (N := 1) rfl ?_); refine bx (N := 1) (cs := #[.int .i64 a0_0, .int .i64 a0_1]) (t := 35) ?_; intro gb410 hg w3 hbox hb; have BK410 := Az.mk (hbox); have GW410 := gwz hg bw_18; have GE410 := gwz hg bw_18; replace HB := Az.mk (bwT bw_18 hb); clear hb hbox hg))
 (try simp only [Act.put, List.setIfInBounds_toArray, List.set_cons_zero, List.set_cons_succ])
 go_cut [16] (fun v16 wc => ∃ (kq : Nat) (x16_1 : Bool), v16 = .bool x16_1 ∧ Az (spec_TurnsTo.j0 kq (⟨#[]⟩ : ByteArray) x16_1 a0_0 a0_1 = some r) ∧ Az (kq ≤ k) ∧ Az (wc.heap[gb410]? = some (.cells #[.int .i64 a0_0, .int .i64 a0_1] 35 (0, 0))) ∧ Az (Below w.heap.size w wc))
 case first =>
  have H := HC2.out
  clear HC2
  replace H := bez H
  obtain ⟨t411, A4, H⟩ := H
  try dsimp only at H
  by_cases c5 : t411 = true
  rotate_left
  ·replace c5 := Bool.eq_false_iff.mpr c5
   subst c5
   rw [if_neg (show ¬ (false = true) by decide)] at H
   have H' := Az.mk H
   clear H
   have hcz13_0 := bkc0 BK410
   have hcz13_1 := bkc1 BK410
   have hfz13_0 := bkF BK410.out 0
   have hfz13_1 := bkF BK410.out 1
   go_wp2_with (first | ((with_reducible refine gtC (f := 43) rfl ?_); refine clz Tryd.func43 (some 5) #[.agg #[.int .i64 a0_0, .int .i64 a0_1]] ?_; (with_reducible refine (spec_IsSlope.calls k a0_0 a0_1 false _ A4.out).mono ?_); rintro e w14 ⟨rfl, hb⟩; refine ⟨_, rfl, ?_⟩; replace BK410 := bkz BK410 hb; replace HB := Az.mk (bwT bw_18 hb); (try clear hb)))
   go_meet
   case rel => exact ⟨_, (true), rq2, H', ⟨by first | omega | exact Nat.le_refl _⟩, ⟨bk1 BK410⟩, ⟨bw_18⟩⟩
  subst c5
  rw [if_pos rfl] at H
  by_cases c6 : a0_0 < 1
  ·rw [if_pos c6] at H
   have c6b0 : decide (a0_0 < 1) = true := decide_eq_true c6
   clear c6
   (first | rw [c6b0] | (simp only [i64_w, i32_w]; rw [c6b0]) | skip)
   have H' := Az.mk H
   clear H
   have hcz7_0 := bkc0 BK410
   have hcz7_1 := bkc1 BK410
   have hfz7_0 := bkF BK410.out 0
   have hfz7_1 := bkF BK410.out 1
   go_wp2_with (first | ((with_reducible refine gtC (f := 43) rfl ?_); refine clz Tryd.func43 (some 5) #[.agg #[.int .i64 a0_0, .int .i64 a0_1]] ?_; (with_reducible refine (spec_IsSlope.calls k a0_0 a0_1 true _ A4.out).mono ?_); rintro e w8 ⟨rfl, hb⟩; refine ⟨_, rfl, ?_⟩; replace BK410 := bkz BK410 hb; replace HB := Az.mk (bwT bw_18 hb); (try clear hb); obtain ⟨hcz9_0, hcz9_1, hfz9_0, hfz9_1⟩ := bq2 BK410))
   go_meet
   case rel => exact ⟨_, (true), rq2, H', ⟨by first | omega | exact Nat.le_refl _⟩, ⟨bk1 BK410⟩, ⟨bw_18⟩⟩
  rw [if_neg c6] at H
  have c6b0 : decide (a0_0 < 1) = false := decide_eq_false c6
  clear c6
  (first | rw [c6b0] | (simp only [i64_w, i32_w]; rw [c6b0]) | skip)
  have H' := Az.mk H
  clear H
  have hcz10_0 := bkc0 BK410
  have hcz10_1 := bkc1 BK410
  have hfz10_0 := bkF BK410.out 0
  have hfz10_1 := bkF BK410.out 1
  go_wp2_with (first | ((with_reducible refine gtC (f := 43) rfl ?_); refine clz Tryd.func43 (some 5) #[.agg #[.int .i64 a0_0, .int .i64 a0_1]] ?_; (with_reducible refine (spec_IsSlope.calls k a0_0 a0_1 true _ A4.out).mono ?_); rintro e w11 ⟨rfl, hb⟩; refine ⟨_, rfl, ?_⟩; replace BK410 := bkz BK410 hb; replace HB := Az.mk (bwT bw_18 hb); (try clear hb); obtain ⟨hcz12_0, hcz12_1, hfz12_0, hfz12_1⟩ := bq2 BK410))
  go_meet
  case rel => exact ⟨_, (decide (a0_1 < 1)), rq2, H', ⟨by first | omega | exact Nat.le_refl _⟩, ⟨bk1 BK410⟩, ⟨bw_18⟩⟩
 clear HC2
 try clear c5
 try clear c6
 try clear c6b0
 try clear hcz10_0
 try clear hcz10_1
 try clear hcz12_0
 try clear hcz12_1
 try clear hcz13_0
 try clear hcz13_1
 try clear hcz7_0
 try clear hcz7_1
 try clear hcz9_0
 try clear hcz9_1
 try clear hfz10_0
 try clear hfz10_1
 try clear hfz12_0
 try clear hfz12_1
 try clear hfz13_0
 try clear hfz13_1
 try clear hfz7_0
 try clear hfz7_1
 try clear hfz9_0
 try clear hfz9_1
 obtain ⟨kq, x16_1, rfl, HA, HJ1, BK410, HB⟩ := hcut
 cases kq with
 | zero => exact absurd HA.out (by simp [spec_TurnsTo.j0])
 | succ kj1 =>
  have H := HA.out
  clear HA
  simp only [spec_TurnsTo.j0] at H
  by_cases c15 : x16_1 = true
  ·subst c15
   rw [if_pos rfl] at H
   obtain rfl := Option.some.inj H
   go_wp2
   go_ret
   exact ⟨rq1, bw_18⟩
  replace c15 := Bool.eq_false_iff.mpr c15
  subst c15
  rw [if_neg (show ¬ (false = true) by decide)] at H
  have H' := Az.mk H
  clear H
  go_wp2
  go_loopg [3] kj1 (fun kq v3 w' => ∃ (x3_2 : ByteArray) (x411000_2 : Int) (x411001_2 : Int), v3 = .string x3_2 ∧ Az (spec_TurnsTo.l0 kq x3_2 x411000_2 x411001_2 = some r) ∧ Az (kq ≤ kj1) ∧ Az (w'.heap[gb410]? = some (.cells #[.int .i64 x411000_2, .int .i64 x411001_2] 35 (0, 0))) ∧ Az (Below w.heap.size w w'))
  case atStart => exact ⟨((⟨#[]⟩ : ByteArray)), (a0_0), (a0_1), rq2, H', ⟨Nat.le_refl _⟩, ⟨bk1 BK410⟩, ⟨bw_18⟩⟩
  clear H'
  try clear c5
  try clear c6
  try clear c6b0
  try clear c15
  try clear hcz10_0
  try clear hcz10_1
  try clear hcz12_0
  try clear hcz12_1
  try clear hcz13_0
  try clear hcz13_1
  try clear hcz7_0
  try clear hcz7_1
  try clear hcz9_0
  try clear hcz9_1
  try clear hfz10_0
  try clear hfz10_1
  try clear hfz12_0
  try clear hfz12_1
  try clear hfz13_0
  try clear hfz13_1
  try clear hfz7_0
  try clear hfz7_1
  try clear hfz9_0
  try clear hfz9_1
  obtain ⟨x3_2, x411000_2, x411001_2, rfl, HA, HK2, BK410, HB⟩ := hrel
  cases gk with
  | zero => exact absurd HA.out (by simp [spec_TurnsTo.l0])
  | succ k2 =>
   have H := HA.out
   clear HA
   simp only [spec_TurnsTo.l0] at H
   by_cases c16 : x411000_2 = x411001_2
   ·rw [if_pos c16] at H
    have c16b0 : (x411000_2 == x411001_2) = true := beq_iff_eq.mpr c16
    have c16b1 : (x411000_2 != x411001_2) = false := bne_eq_false_iff_eq.mpr c16
    clear c16
    by_cases c17 : (x3_2.size : Int) > 24
    ·rw [if_pos c17] at H
     have c17b0 : decide (24 < (x3_2.size : Int)) = true := decide_eq_true c17
     have c17b1 : decide (24 < x3_2.size) = true := decide_eq_true (by omega)
     clear c17
     obtain rfl := Option.some.inj H
     have hcz18_0 := bkc0 BK410
     have hcz18_1 := bkc1 BK410
     have hfz18_0 := bkF BK410.out 0
     have hfz18_1 := bkF BK410.out 1
     go_wp2
     go_ret
     exact ⟨rq1, bw_18⟩
    rw [if_neg c17] at H
    have c17b0 : decide (24 < (x3_2.size : Int)) = false := decide_eq_false c17
    have c17b1 : decide (24 < x3_2.size) = false := decide_eq_false (by omega)
    clear c17
    obtain rfl := Option.some.inj H
    have hcz19_0 := bkc0 BK410
    have hcz19_1 := bkc1 BK410
    have hfz19_0 := bkF BK410.out 0
    have hfz19_1 := bkF BK410.out 1
    go_wp2
    go_ret
    exact ⟨rq1, bw_18⟩
   rw [if_neg c16] at H
   have c16b0 : (x411000_2 == x411001_2) = false := beq_eq_false_iff_ne.mpr c16
   have c16b1 : (x411000_2 != x411001_2) = true := bne_iff_ne.mpr c16
   by_cases c20 : x411000_2 > x411001_2
   ·rw [if_pos c20] at H
    have c20b0 : decide (x411001_2 < x411000_2) = true := decide_eq_true c20
    clear c20
    by_cases c21 : x3_2.size + 1 ≤ 9223372036854775807
    rotate_left
    ·rw [if_neg c21] at H
     exact absurd H (by simp)
    rw [if_pos c21] at H
    have c21b0 := eq_true c21
    have c21b1 : decide (x3_2.size + 1 ≤ 9223372036854775807) = true := decide_eq_true c21
    try have c21b2 : (9223372036854775807 < x3_2.size + 1) = False := eq_false (Nat.not_lt.2 c21)
    have H' := Az.mk H
    clear H
    have hcz22_0 := bkc0 BK410
    have hcz22_1 := bkc1 BK410
    have hfz22_0 := bkF BK410.out 0
    have hfz22_1 := bkF BK410.out 1
    go_wp2
    go_roundg k2
    case measure => have := HJ1.out; have := HK2.out; omega
    case rel => exact ⟨(x3_2 ++ (⟨#[82]⟩ : ByteArray)), (wrap64 (x411000_2 - x411001_2)), (x411001_2), rq2, H', ⟨by have := HJ1.out; have := HK2.out; omega⟩, ⟨bkv⟩, ⟨bw_18⟩⟩
   rw [if_neg c20] at H
   have c20b0 : decide (x411001_2 < x411000_2) = false := decide_eq_false c20
   clear c20
   by_cases c23 : x3_2.size + 1 ≤ 9223372036854775807
   rotate_left
   ·rw [if_neg c23] at H
    exact absurd H (by simp)
   rw [if_pos c23] at H
   have c23b0 := eq_true c23
   have c23b1 : decide (x3_2.size + 1 ≤ 9223372036854775807) = true := decide_eq_true c23
   try have c23b2 : (9223372036854775807 < x3_2.size + 1) = False := eq_false (Nat.not_lt.2 c23)
   have H' := Az.mk H
   clear H
   have hcz24_0 := bkc0 BK410
   have hcz24_1 := bkc1 BK410
   have hfz24_0 := bkF BK410.out 0
   have hfz24_1 := bkF BK410.out 1
   go_wp2
   go_roundg k2
   case measure => have := HJ1.out; have := HK2.out; omega
   case rel => exact ⟨(x3_2 ++ (⟨#[76]⟩ : ByteArray)), (x411000_2), (wrap64 (x411001_2 - x411000_2)), rq2, H', ⟨by have := HJ1.out; have := HK2.out; omega⟩, ⟨bkv⟩, ⟨bw_18⟩⟩

/-! ### impl_InverseMatrix: function 23 -/
def impl_InverseMatrix.f (k : Nat) (a0_0 : Int) (a0_1 : Int) (a0_2 : Int) (a0_3 : Int) : Option (Int × Int × Int × Int) := (impl_IsMatrix.f k a0_0 a0_1 a0_2 a0_3).bind fun t414 => (if t414 = true then (some (a0_3, wrap64 (-a0_1), wrap64 (-a0_2), a0_0)) else (some (0, 0, 0, 0)))
theorem impl_InverseMatrix.mono : ∀ a0 a1 a2 a3 k, LeO (impl_InverseMatrix.f k a0 a1 a2 a3) (impl_InverseMatrix.f (k + 1) a0 a1 a2 a3) := by
 intro a0 a1 a2 a3 k
 unfold impl_InverseMatrix.f
 exact mo_
instance impl_InverseMatrix.mi {a0 a1 a2 a3 k} : MoO (impl_InverseMatrix.f k a0 a1 a2 a3) (impl_InverseMatrix.f (k + 1) a0 a1 a2 a3) := ⟨impl_InverseMatrix.mono _ _ _ _ _⟩
set_option maxHeartbeats 8000000 in
set_option maxRecDepth 100000 in
theorem impl_InverseMatrix.calls (k : Nat) (a0_0 : Int) (a0_1 : Int) (a0_2 : Int) (a0_3 : Int) (r1 : Int) (r2 : Int) (r3 : Int) (r4 : Int) (w : World) (h : impl_InverseMatrix.f k a0_0 a0_1 a0_2 a0_3 = some (r1, r2, r3, r4)) :
  Calls Tryd.prog 23 #[.agg #[.int .i64 a0_0, .int .i64 a0_1, .int .i64 a0_2, .int .i64 a0_3]] w fun e w' => e = .returned (.agg #[.int .i64 r1, .int .i64 r2, .int .i64 r3, .int .i64 r4]) ∧ Below w.heap.size w w' := by
 have hu25 := Tryd.underlying25
 have HB := Az.mk (Below.refl w.heap.size w)
 have H : ((impl_IsMatrix.f k a0_0 a0_1 a0_2 a0_3).bind fun t414 => (if t414 = true then (some (a0_3, wrap64 (-a0_1), wrap64 (-a0_2), a0_0)) else (some (0, 0, 0, 0)))) = some (r1, r2, r3, r4) := h
 clear h
 replace H := bez H
 obtain ⟨t414, A2, H⟩ := H
 try dsimp only at H
 by_cases c3 : t414 = true
 ·subst c3
  rw [if_pos rfl] at H
  simp only [Option.some.injEq, Prod.mk.injEq] at H
  obtain ⟨rfl, rfl, rfl, rfl⟩ := H
  go_enter Tryd.func23, Tryd.ntmps23
  go_wp2_with (first | ((with_reducible refine gtD (N := 1) rfl ?_); refine bx (N := 1) (cs := #[.int .i64 a0_0, .int .i64 a0_1, .int .i64 a0_2, .int .i64 a0_3]) (t := 25) ?_; intro gb412 hg w4 hbox hb; have BK412 := Az.mk (hbox); have GW412 := gwz hg bw_18; have GE412 := gwz hg bw_18; replace HB := Az.mk (bwT bw_18 hb); clear hb hbox hg) | ((with_reducible refine gtD (N := 2) rfl ?_); refine bx (N := 2) (cs := #[.int .i64 0, .int .i64 0, .int .i64 0, .int .i64 0]) (t := 25) ?_; intro gb413 hg w5 hbox hb; have BK413 := Az.mk (hbox); have GW413 := gwz hg bw_18; have GE413 := gwz hg bw_18; replace HB := Az.mk (bwT bw_18 hb); have NB412_413 := nlt BK412 hg; have NB413_412 := ngt BK412 hg; replace BK412 := bkz BK412 hb; clear hb hbox hg; have hnb6 := NB412_413.out; have hnc6 := NB413_412.out; obtain ⟨hcz7_0, hcz7_1, hcz7_2, hcz7_3, hfz7_0, hfz7_1, hfz7_2, hfz7_3⟩ := bq4 BK412) | ((with_reducible refine gtC (f := 21) rfl ?_); refine clz Tryd.func21 (some 4) #[.agg #[.int .i64 a0_0, .int .i64 a0_1, .int .i64 a0_2, .int .i64 a0_3]] ?_; (with_reducible refine (impl_IsMatrix.calls k a0_0 a0_1 a0_2 a0_3 true _ A2.out).mono ?_); rintro e w8 ⟨rfl, hb⟩; refine ⟨_, rfl, ?_⟩; replace BK412 := bkz BK412 hb; replace BK413 := bkz BK413 hb; replace HB := Az.mk (bwT bw_18 hb); (try clear hb); obtain ⟨hcz9_0, hcz9_1, hcz9_2, hcz9_3, hfz9_0, hfz9_1, hfz9_2, hfz9_3⟩ := bq4 BK412; obtain ⟨hcz10_0, hcz10_1, hcz10_2, hcz10_3, hfz10_0, hfz10_1, hfz10_2, hfz10_3⟩ := bq4 BK413))
  refine bodyPost_ret (results_cell_row rfl _ _ gb413 25 #[.int .i64 a0_3, .int .i64 (wrap64 (-a0_1)), .int .i64 (wrap64 (-a0_2)), .int .i64 a0_0] (0, 0) _ rfl bkv Tryd.underlying25 rfl (by kernel_rfl)) rfl ?_
  exact ⟨rq1, bw_18⟩
 replace c3 := Bool.eq_false_iff.mpr c3
 subst c3
 rw [if_neg (show ¬ (false = true) by decide)] at H
 simp only [Option.some.injEq, Prod.mk.injEq] at H
 obtain ⟨rfl, rfl, rfl, rfl⟩ := H
 go_enter Tryd.func23, Tryd.ntmps23
 go_wp2_with (first | ((with_reducible refine gtD (N := 1) rfl ?_); refine bx (N := 1) (cs := #[.int .i64 a0_0, .int .i64 a0_1, .int .i64 a0_2, .int .i64 a0_3]) (t := 25) ?_; intro gb412 hg w11 hbox hb; have BK412 := Az.mk (hbox); have GW412 := gwz hg bw_18; have GE412 := gwz hg bw_18; replace HB := Az.mk (bwT bw_18 hb); clear hb hbox hg) | ((with_reducible refine gtD (N := 2) rfl ?_); refine bx (N := 2) (cs := #[.int .i64 0, .int .i64 0, .int .i64 0, .int .i64 0]) (t := 25) ?_; intro gb413 hg w12 hbox hb; have BK413 := Az.mk (hbox); have GW413 := gwz hg bw_18; have GE413 := gwz hg bw_18; replace HB := Az.mk (bwT bw_18 hb); have NB412_413 := nlt BK412 hg; have NB413_412 := ngt BK412 hg; replace BK412 := bkz BK412 hb; clear hb hbox hg; have hnb13 := NB412_413.out; have hnc13 := NB413_412.out; obtain ⟨hcz14_0, hcz14_1, hcz14_2, hcz14_3, hfz14_0, hfz14_1, hfz14_2, hfz14_3⟩ := bq4 BK412) | ((with_reducible refine gtC (f := 21) rfl ?_); refine clz Tryd.func21 (some 4) #[.agg #[.int .i64 a0_0, .int .i64 a0_1, .int .i64 a0_2, .int .i64 a0_3]] ?_; (with_reducible refine (impl_IsMatrix.calls k a0_0 a0_1 a0_2 a0_3 false _ A2.out).mono ?_); rintro e w15 ⟨rfl, hb⟩; refine ⟨_, rfl, ?_⟩; replace BK412 := bkz BK412 hb; replace BK413 := bkz BK413 hb; replace HB := Az.mk (bwT bw_18 hb); (try clear hb); obtain ⟨hcz16_0, hcz16_1, hcz16_2, hcz16_3, hfz16_0, hfz16_1, hfz16_2, hfz16_3⟩ := bq4 BK413))
 refine bodyPost_ret (results_cell_row rfl _ _ gb413 25 #[.int .i64 0, .int .i64 0, .int .i64 0, .int .i64 0] (0, 0) _ rfl bkv Tryd.underlying25 rfl (by kernel_rfl)) rfl ?_
 exact ⟨rq1, bw_18⟩

/-! ### spec_InverseMatrix: function 24 -/
def spec_InverseMatrix.f (k : Nat) (a0_0 : Int) (a0_1 : Int) (a0_2 : Int) (a0_3 : Int) : Option (Int × Int × Int × Int) := (spec_IsMatrix.f k a0_0 a0_1 a0_2 a0_3).bind fun t417 => (if t417 = true then (some (a0_3, wrap64 (-a0_1), wrap64 (-a0_2), a0_0)) else (some (0, 0, 0, 0)))
theorem spec_InverseMatrix.mono : ∀ a0 a1 a2 a3 k, LeO (spec_InverseMatrix.f k a0 a1 a2 a3) (spec_InverseMatrix.f (k + 1) a0 a1 a2 a3) := by
 intro a0 a1 a2 a3 k
 unfold spec_InverseMatrix.f
 exact mo_
instance spec_InverseMatrix.mi {a0 a1 a2 a3 k} : MoO (spec_InverseMatrix.f k a0 a1 a2 a3) (spec_InverseMatrix.f (k + 1) a0 a1 a2 a3) := ⟨spec_InverseMatrix.mono _ _ _ _ _⟩
set_option maxHeartbeats 8000000 in
set_option maxRecDepth 100000 in
theorem spec_InverseMatrix.calls (k : Nat) (a0_0 : Int) (a0_1 : Int) (a0_2 : Int) (a0_3 : Int) (r1 : Int) (r2 : Int) (r3 : Int) (r4 : Int) (w : World) (h : spec_InverseMatrix.f k a0_0 a0_1 a0_2 a0_3 = some (r1, r2, r3, r4)) :
  Calls Tryd.prog 24 #[.agg #[.int .i64 a0_0, .int .i64 a0_1, .int .i64 a0_2, .int .i64 a0_3]] w fun e w' => e = .returned (.agg #[.int .i64 r1, .int .i64 r2, .int .i64 r3, .int .i64 r4]) ∧ Below w.heap.size w w' := by
 have hu25 := Tryd.underlying25
 have HB := Az.mk (Below.refl w.heap.size w)
 have H : ((spec_IsMatrix.f k a0_0 a0_1 a0_2 a0_3).bind fun t417 => (if t417 = true then (some (a0_3, wrap64 (-a0_1), wrap64 (-a0_2), a0_0)) else (some (0, 0, 0, 0)))) = some (r1, r2, r3, r4) := h
 clear h
 replace H := bez H
 obtain ⟨t417, A2, H⟩ := H
 try dsimp only at H
 by_cases c3 : t417 = true
 ·subst c3
  rw [if_pos rfl] at H
  simp only [Option.some.injEq, Prod.mk.injEq] at H
  obtain ⟨rfl, rfl, rfl, rfl⟩ := H
  go_enter Tryd.func24, Tryd.ntmps24
  go_wp2_with (first | ((with_reducible refine gtD (N := 1) rfl ?_); refine bx (N := 1) (cs := #[.int .i64 a0_0, .int .i64 a0_1, .int .i64 a0_2, .int .i64 a0_3]) (t := 25) ?_; intro gb415 hg w4 hbox hb; have BK415 := Az.mk (hbox); have GW415 := gwz hg bw_18; have GE415 := gwz hg bw_18; replace HB := Az.mk (bwT bw_18 hb); clear hb hbox hg) | ((with_reducible refine gtD (N := 2) rfl ?_); refine bx (N := 2) (cs := #[.int .i64 0, .int .i64 0, .int .i64 0, .int .i64 0]) (t := 25) ?_; intro gb416 hg w5 hbox hb; have BK416 := Az.mk (hbox); have GW416 := gwz hg bw_18; have GE416 := gwz hg bw_18; replace HB := Az.mk (bwT bw_18 hb); have NB415_416 := nlt BK415 hg; have NB416_415 := ngt BK415 hg; replace BK415 := bkz BK415 hb; clear hb hbox hg; have hnb6 := NB415_416.out; have hnc6 := NB416_415.out; obtain ⟨hcz7_0, hcz7_1, hcz7_2, hcz7_3, hfz7_0, hfz7_1, hfz7_2, hfz7_3⟩ := bq4 BK415) | ((with_reducible refine gtC (f := 22) rfl ?_); refine clz Tryd.func22 (some 4) #[.agg #[.int .i64 a0_0, .int .i64 a0_1, .int .i64 a0_2, .int .i64 a0_3]] ?_; (with_reducible refine (spec_IsMatrix.calls k a0_0 a0_1 a0_2 a0_3 true _ A2.out).mono ?_); rintro e w8 ⟨rfl, hb⟩; refine ⟨_, rfl, ?_⟩; replace BK415 := bkz BK415 hb; replace BK416 := bkz BK416 hb; replace HB := Az.mk (bwT bw_18 hb); (try clear hb); obtain ⟨hcz9_0, hcz9_1, hcz9_2, hcz9_3, hfz9_0, hfz9_1, hfz9_2, hfz9_3⟩ := bq4 BK415; obtain ⟨hcz10_0, hcz10_1, hcz10_2, hcz10_3, hfz10_0, hfz10_1, hfz10_2, hfz10_3⟩ := bq4 BK416))
  refine bodyPost_ret (results_cell_row rfl _ _ gb416 25 #[.int .i64 a0_3, .int .i64 (wrap64 (-a0_1)), .int .i64 (wrap64 (-a0_2)), .int .i64 a0_0] (0, 0) _ rfl bkv Tryd.underlying25 rfl (by kernel_rfl)) rfl ?_
  exact ⟨rq1, bw_18⟩
 replace c3 := Bool.eq_false_iff.mpr c3
 subst c3
 rw [if_neg (show ¬ (false = true) by decide)] at H
 simp only [Option.some.injEq, Prod.mk.injEq] at H
 obtain ⟨rfl, rfl, rfl, rfl⟩ := H
 go_enter Tryd.func24, Tryd.ntmps24
 go_wp2_with (first | ((with_reducible refine gtD (N := 1) rfl ?_); refine bx (N := 1) (cs := #[.int .i64 a0_0, .int .i64 a0_1, .int .i64 a0_2, .int .i64 a0_3]) (t := 25) ?_; intro gb415 hg w11 hbox hb; have BK415 := Az.mk (hbox); have GW415 := gwz hg bw_18; have GE415 := gwz hg bw_18; replace HB := Az.mk (bwT bw_18 hb); clear hb hbox hg) | ((with_reducible refine gtD (N := 2) rfl ?_); refine bx (N := 2) (cs := #[.int .i64 0, .int .i64 0, .int .i64 0, .int .i64 0]) (t := 25) ?_; intro gb416 hg w12 hbox hb; have BK416 := Az.mk (hbox); have GW416 := gwz hg bw_18; have GE416 := gwz hg bw_18; replace HB := Az.mk (bwT bw_18 hb); have NB415_416 := nlt BK415 hg; have NB416_415 := ngt BK415 hg; replace BK415 := bkz BK415 hb; clear hb hbox hg; have hnb13 := NB415_416.out; have hnc13 := NB416_415.out; obtain ⟨hcz14_0, hcz14_1, hcz14_2, hcz14_3, hfz14_0, hfz14_1, hfz14_2, hfz14_3⟩ := bq4 BK415) | ((with_reducible refine gtC (f := 22) rfl ?_); refine clz Tryd.func22 (some 4) #[.agg #[.int .i64 a0_0, .int .i64 a0_1, .int .i64 a0_2, .int .i64 a0_3]] ?_; (with_reducible refine (spec_IsMatrix.calls k a0_0 a0_1 a0_2 a0_3 false _ A2.out).mono ?_); rintro e w15 ⟨rfl, hb⟩; refine ⟨_, rfl, ?_⟩; replace BK415 := bkz BK415 hb; replace BK416 := bkz BK416 hb; replace HB := Az.mk (bwT bw_18 hb); (try clear hb); obtain ⟨hcz16_0, hcz16_1, hcz16_2, hcz16_3, hfz16_0, hfz16_1, hfz16_2, hfz16_3⟩ := bq4 BK416))
 refine bodyPost_ret (results_cell_row rfl _ _ gb416 25 #[.int .i64 0, .int .i64 0, .int .i64 0, .int .i64 0] (0, 0) _ rfl bkv Tryd.underlying25 rfl (by kernel_rfl)) rfl ?_
 exact ⟨rq1, bw_18⟩

/-! ### impl_TraceOf: function 25 -/
def impl_TraceOf.f (k : Nat) (a0_0 : Int) (a0_1 : Int) (a0_2 : Int) (a0_3 : Int) : Option (Int) := (impl_IsMatrix.f k a0_0 a0_1 a0_2 a0_3).bind fun t419 => (if t419 = true then (some (wrap64 (a0_0 + a0_3))) else (some 0))
theorem impl_TraceOf.mono : ∀ a0 a1 a2 a3 k, LeO (impl_TraceOf.f k a0 a1 a2 a3) (impl_TraceOf.f (k + 1) a0 a1 a2 a3) := by
 intro a0 a1 a2 a3 k
 unfold impl_TraceOf.f
 exact mo_
instance impl_TraceOf.mi {a0 a1 a2 a3 k} : MoO (impl_TraceOf.f k a0 a1 a2 a3) (impl_TraceOf.f (k + 1) a0 a1 a2 a3) := ⟨impl_TraceOf.mono _ _ _ _ _⟩
set_option maxHeartbeats 8000000 in
set_option maxRecDepth 100000 in
theorem impl_TraceOf.calls (k : Nat) (a0_0 : Int) (a0_1 : Int) (a0_2 : Int) (a0_3 : Int) (r : Int) (w : World) (h : impl_TraceOf.f k a0_0 a0_1 a0_2 a0_3 = some r) :
  Calls Tryd.prog 25 #[.agg #[.int .i64 a0_0, .int .i64 a0_1, .int .i64 a0_2, .int .i64 a0_3]] w fun e w' => e = .returned (.int .i64 r) ∧ Below w.heap.size w w' := by
 have hu25 := Tryd.underlying25
 have HB := Az.mk (Below.refl w.heap.size w)
 have H : ((impl_IsMatrix.f k a0_0 a0_1 a0_2 a0_3).bind fun t419 => (if t419 = true then (some (wrap64 (a0_0 + a0_3))) else (some 0))) = some r := h
 clear h
 replace H := bez H
 obtain ⟨t419, A2, H⟩ := H
 try dsimp only at H
 by_cases c3 : t419 = true
 ·subst c3
  rw [if_pos rfl] at H
  obtain rfl := Option.some.inj H
  go_enter Tryd.func25, Tryd.ntmps25
  go_wp2_with (first | ((with_reducible refine gtD (N := 1) rfl ?_); refine bx (N := 1) (cs := #[.int .i64 a0_0, .int .i64 a0_1, .int .i64 a0_2, .int .i64 a0_3]) (t := 25) ?_; intro gb418 hg w4 hbox hb; have BK418 := Az.mk (hbox); have GW418 := gwz hg bw_18; have GE418 := gwz hg bw_18; replace HB := Az.mk (bwT bw_18 hb); clear hb hbox hg; obtain ⟨hcz5_0, hcz5_1, hcz5_2, hcz5_3, hfz5_0, hfz5_1, hfz5_2, hfz5_3⟩ := bq4 BK418) | ((with_reducible refine gtC (f := 21) rfl ?_); refine clz Tryd.func21 (some 4) #[.agg #[.int .i64 a0_0, .int .i64 a0_1, .int .i64 a0_2, .int .i64 a0_3]] ?_; (with_reducible refine (impl_IsMatrix.calls k a0_0 a0_1 a0_2 a0_3 true _ A2.out).mono ?_); rintro e w6 ⟨rfl, hb⟩; refine ⟨_, rfl, ?_⟩; replace BK418 := bkz BK418 hb; replace HB := Az.mk (bwT bw_18 hb); (try clear hb); obtain ⟨hcz7_0, hcz7_1, hcz7_2, hcz7_3, hfz7_0, hfz7_1, hfz7_2, hfz7_3⟩ := bq4 BK418))
  go_ret
  exact ⟨rq1, bw_18⟩
 replace c3 := Bool.eq_false_iff.mpr c3
 subst c3
 rw [if_neg (show ¬ (false = true) by decide)] at H
 obtain rfl := Option.some.inj H
 go_enter Tryd.func25, Tryd.ntmps25
 go_wp2_with (first | ((with_reducible refine gtD (N := 1) rfl ?_); refine bx (N := 1) (cs := #[.int .i64 a0_0, .int .i64 a0_1, .int .i64 a0_2, .int .i64 a0_3]) (t := 25) ?_; intro gb418 hg w8 hbox hb; have BK418 := Az.mk (hbox); have GW418 := gwz hg bw_18; have GE418 := gwz hg bw_18; replace HB := Az.mk (bwT bw_18 hb); clear hb hbox hg; obtain ⟨hcz9_0, hcz9_1, hcz9_2, hcz9_3, hfz9_0, hfz9_1, hfz9_2, hfz9_3⟩ := bq4 BK418) | ((with_reducible refine gtC (f := 21) rfl ?_); refine clz Tryd.func21 (some 4) #[.agg #[.int .i64 a0_0, .int .i64 a0_1, .int .i64 a0_2, .int .i64 a0_3]] ?_; (with_reducible refine (impl_IsMatrix.calls k a0_0 a0_1 a0_2 a0_3 false _ A2.out).mono ?_); rintro e w10 ⟨rfl, hb⟩; refine ⟨_, rfl, ?_⟩; replace BK418 := bkz BK418 hb; replace HB := Az.mk (bwT bw_18 hb); (try clear hb)))
 go_ret
 exact ⟨rq1, bw_18⟩

end Go.Proofs.YtnoiijdffdpabaaDoor.P
