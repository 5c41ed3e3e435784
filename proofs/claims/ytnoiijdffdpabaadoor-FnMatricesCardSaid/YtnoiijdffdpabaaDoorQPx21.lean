-- By this session's driver (wip/tools/mk.py) of the kit's print program, over several statements at once. Not trusted: Lean checks it.
import Derived.Test.YtnoiijdffdpabaaDoorQWZip
import Derived.Test.YtnoiijdffdpabaaDoorQPx0
import Derived.Test.YtnoiijdffdpabaaDoorQPx5
import Derived.Test.YtnoiijdffdpabaaDoorQPx12
import Derived.Test.YtnoiijdffdpabaaDoorQPx16
import Derived.Test.YtnoiijdffdpabaaDoorQPx19
namespace Go.Proofs.YtnoiijdffdpabaaDoor.P
open Go.RowKit Go.Proofs.YtnoiijdffdpabaaDoorW.PrintWords Go.Proofs.YtnoiijdffdpabaaDoorW.PrintLast Go.Proofs.YtnoiijdffdpabaaDoorW.PrintMore
attribute [local go_sem] max2_int min2_int max_two min_two max_three min_three max_four min_four   -- for this text's walks alone
set_option linter.unusedVariables false
set_option linter.unusedSimpArgs false
theorem bw_21 {n : Nat} {v v' : World} (h : Below n v v' := by repeat (first | (with_reducible first | exact HB.out | apply bwA | apply pbN | apply bwD | refine bwS ?_ GE433.out | refine bwS ?_ GE436.out | refine bwS ?_ GE446.out) | exact HB.out)) : Below n v v' := h
theorem ln_21 {P : Prop} (h : P := by (try simp only [List.map_toArray, List.map_cons, List.map_nil]); first | done | rfl | (simp only [List.length_drop, List.length_take]; rfl)) : P := h
open Option renaming bind_eq_some_iff → be

attribute [local go_sem high] eqA25
/-! ### impl_OrderOf: function 29 -/
mutual
def impl_OrderOf.j0 : Nat → Bool → Int → Int → Int → Int → Option (Int)
 | 0, _, _, _, _, _ => none
 | k + 1, x18, x434000, x434001, x434002, x434003 => if x18 = true then (some 0) else (impl_OrderOf.l0 k 1 x434000 x434001 x434002 x434003 x434000 x434001 x434002 x434003)
def impl_OrderOf.l0 : Nat → Int → Int → Int → Int → Int → Int → Int → Int → Int → Option (Int)
 | 0, _, _, _, _, _, _, _, _, _ => none
 | k + 1, x5, x434000, x434001, x434002, x434003, x437000, x437001, x437002, x437003 => if x5 ≤ 12 then ((impl_one.f).bind fun bt437 => (if (x437000 == bt437.1 && (x437001 == bt437.2.1 && (x437002 == bt437.2.2.1 && (x437003 == bt437.2.2.2)))) = true then (some x5) else ((impl_TimesMatrix.f k x437000 x437001 x437002 x437003 x434000 x434001 x434002 x434003).bind fun bt441 => (if bt441.2.2.2.2 = true then (impl_OrderOf.l0 k (wrap64 (x5 + 1)) x434000 x434001 x434002 x434003 bt441.1 bt441.2.1 bt441.2.2.1 bt441.2.2.2.1) else (some 0))))) else (some 0)
end
def impl_OrderOf.f (k : Nat) (a0_0 : Int) (a0_1 : Int) (a0_2 : Int) (a0_3 : Int) : Option (Int) := (impl_IsMatrix.f k a0_0 a0_1 a0_2 a0_3).bind fun t434 => (if t434 = true then ((impl_KindOf.f k a0_0 a0_1 a0_2 a0_3).bind fun t435 => (if t435.toList = ([105, 100, 101, 110, 116, 105, 116, 121] : List UInt8) then (impl_OrderOf.j0 k false a0_0 a0_1 a0_2 a0_3) else (impl_OrderOf.j0 k (t435.toList != ([112, 101, 114, 105, 111, 100, 105, 99] : List UInt8)) a0_0 a0_1 a0_2 a0_3))) else (some (-1)))
theorem impl_OrderOf.mono_l : ∀ k, (∀ y0 y1 y2 y3 y4, LeO (impl_OrderOf.j0 k y0 y1 y2 y3 y4) (impl_OrderOf.j0 (k + 1) y0 y1 y2 y3 y4)) ∧ (∀ y0 y1 y2 y3 y4 y5 y6 y7 y8, LeO (impl_OrderOf.l0 k y0 y1 y2 y3 y4 y5 y6 y7 y8) (impl_OrderOf.l0 (k + 1) y0 y1 y2 y3 y4 y5 y6 y7 y8))
 | 0 => ⟨fun _ _ _ _ _ r h => by simp [impl_OrderOf.j0] at h, fun _ _ _ _ _ _ _ _ _ r h => by simp [impl_OrderOf.l0] at h⟩
 | k + 1 => by
  obtain ⟨ih0, ih1⟩ := impl_OrderOf.mono_l k
  have i0 := fun z0 z1 z2 z3 z4 => MoO.mk (ih0 z0 z1 z2 z3 z4)
  have i1 := fun z0 z1 z2 z3 z4 z5 z6 z7 z8 => MoO.mk (ih1 z0 z1 z2 z3 z4 z5 z6 z7 z8)
  refine ⟨?_, ?_⟩
  ·intro y0 y1 y2 y3 y4
   unfold impl_OrderOf.j0
   exact mo_
  intro y0 y1 y2 y3 y4 y5 y6 y7 y8
  unfold impl_OrderOf.l0
  exact mo_
theorem impl_OrderOf.mono : ∀ a0 a1 a2 a3 k, LeO (impl_OrderOf.f k a0 a1 a2 a3) (impl_OrderOf.f (k + 1) a0 a1 a2 a3) := by
 intro a0 a1 a2 a3 k
 obtain ⟨ih0, ih1⟩ := impl_OrderOf.mono_l k
 have i0 := fun z0 z1 z2 z3 z4 => MoO.mk (ih0 z0 z1 z2 z3 z4)
 have i1 := fun z0 z1 z2 z3 z4 z5 z6 z7 z8 => MoO.mk (ih1 z0 z1 z2 z3 z4 z5 z6 z7 z8)
 unfold impl_OrderOf.f
 exact mo_
instance impl_OrderOf.mi {a0 a1 a2 a3 k} : MoO (impl_OrderOf.f k a0 a1 a2 a3) (impl_OrderOf.f (k + 1) a0 a1 a2 a3) := ⟨impl_OrderOf.mono _ _ _ _ _⟩
set_option maxHeartbeats 8000000 in
set_option maxRecDepth 100000 in
theorem impl_OrderOf.calls (k : Nat) (a0_0 : Int) (a0_1 : Int) (a0_2 : Int) (a0_3 : Int) (r : Int) (w : World) (h : impl_OrderOf.f k a0_0 a0_1 a0_2 a0_3 = some r) :
  Calls Tryd.prog 29 #[.agg #[.int .i64 a0_0, .int .i64 a0_1, .int .i64 a0_2, .int .i64 a0_3]] w fun e w' => e = .returned (.int .i64 r) ∧ Below w.heap.size w w' := by
 have hu25 := Tryd.underlying25
 have HB := Az.mk (Below.refl w.heap.size w)
 have H : ((impl_IsMatrix.f k a0_0 a0_1 a0_2 a0_3).bind fun t434 => (if t434 = true then ((impl_KindOf.f k a0_0 a0_1 a0_2 a0_3).bind fun t435 => (if t435.toList = ([105, 100, 101, 110, 116, 105, 116, 121] : List UInt8) then (impl_OrderOf.j0 k false a0_0 a0_1 a0_2 a0_3) else (impl_OrderOf.j0 k (t435.toList != ([112, 101, 114, 105, 111, 100, 105, 99] : List UInt8)) a0_0 a0_1 a0_2 a0_3))) else (some (-1)))) = some r := h
 clear h
 replace H := bez H
 obtain ⟨t434, A2, H⟩ := H
 try dsimp only at H
 by_cases c3 : t434 = true
 rotate_left
 ·replace c3 := Bool.eq_false_iff.mpr c3
  subst c3
  rw [if_neg (show ¬ (false = true) by decide)] at H
  obtain rfl := Option.some.inj H
  go_enter Tryd.func29, Tryd.ntmps29
  go_wp2_with (first | ((with_reducible refine gtD (N := 1) rfl ?_); refine bx (N := 1) (cs := #[.int .i64 a0_0, .int .i64 a0_1, .int .i64 a0_2, .int .i64 a0_3]) (t := 25) ?_; intro gb433 hg w45 hbox hb; have BK433 := Az.mk (hbox); have GW433 := gwz hg bw_21; have GE433 := gwz hg bw_21; replace HB := Az.mk (bwT bw_21 hb); clear hb hbox hg; obtain ⟨hcz46_0, hcz46_1, hcz46_2, hcz46_3, hfz46_0, hfz46_1, hfz46_2, hfz46_3⟩ := bq4 BK433) | ((with_reducible refine gtC (f := 21) rfl ?_); refine clz Tryd.func21 (some 9) #[.agg #[.int .i64 a0_0, .int .i64 a0_1, .int .i64 a0_2, .int .i64 a0_3]] ?_; (with_reducible refine (impl_IsMatrix.calls k a0_0 a0_1 a0_2 a0_3 false _ A2.out).mono ?_); rintro e w47 ⟨rfl, hb⟩; refine ⟨_, rfl, ?_⟩; replace BK433 := bkz BK433 hb; replace HB := Az.mk (bwT bw_21 hb); (try clear hb)))
  go_ret
  exact ⟨rq1, bw_21⟩
 subst c3
 rw [if_pos rfl] at H
 replace H := bez H
 obtain ⟨t435, A4, H⟩ := H
 try dsimp only at H
 have HC5 := Az.mk H
 clear H
 go_enter Tryd.func29, Tryd.ntmps29
 go_upto_region 4 with (first | ((with_reducible refine gtD (N := 1) rfl ?_); refine bx (N := 1) (cs := #[.int .i64 a0_0, .int .i64 a0_1, .int .i64 a0_2, .int .i64 a0_3]) (t := 25) ?_; intro gb433 hg w6 hbox hb; have BK433 := Az.mk (hbox); have GW433 := gwz hg bw_21; have GE433 := gwz hg bw_21; replace HB := Az.mk (bwT bw_21 hb); clear hb hbox hg; obtain ⟨hcz7_0, hcz7_1, hcz7_2, hcz7_3, hfz7_0, hfz7_1, hfz7_2, hfz7_3⟩ := bq4 BK433) | ((with_reducible refine gtC (f := 21) rfl ?_); refine clz Tryd.func21 (some 9) #[.agg #[.int .i64 a0_0, .int .i64 a0_1, .int .i64 a0_2, .int .i64 a0_3]] ?_; (with_reducible refine (impl_IsMatrix.calls k a0_0 a0_1 a0_2 a0_3 true _ A2.out).mono ?_); rintro e w8 ⟨rfl, hb⟩; refine ⟨_, rfl, ?_⟩; replace BK433 := bkz BK433 hb; replace HB := Az.mk (bwT bw_21 hb); (try clear hb); obtain ⟨hcz9_0, hcz9_1, hcz9_2, hcz9_3, hfz9_0, hfz9_1, hfz9_2, hfz9_3⟩ := bq4 BK433) | ((with_reducible refine gtC (f := 27) rfl ?_); refine clz Tryd.func27 (some 12) #[.agg #[.int .i64 a0_0, .int .i64 a0_1, .int .i64 a0_2, .int .i64 a0_3]] ?_; (with_reducible refine (impl_KindOf.calls k a0_0 a0_1 a0_2 a0_3 t435 _ A4.out).mono ?_); rintro e w10 ⟨rfl, hb⟩; refine ⟨_, rfl, ?_⟩; replace BK433 := bkz BK433 hb; replace HB := Az.mk (bwT bw_21 hb); (try clear hb)))
 (try simp only [Act.put, List.setIfInBounds_toArray, List.set_cons_zero, List.set_cons_succ])
 go_cut [18] (fun v18 wc => ∃ (kq : Nat) (x18_4 : Bool), v18 = .bool x18_4 ∧ Az (impl_OrderOf.j0 kq x18_4 a0_0 a0_1 a0_2 a0_3 = some r) ∧ Az (kq ≤ k) ∧ Az (wc.heap[gb433]? = some (.cells #[.int .i64 a0_0, .int .i64 a0_1, .int .i64 a0_2, .int .i64 a0_3] 25 (0, 0))) ∧ Az (Below w.heap.size w wc))
 case first =>
  have H := HC5.out
  clear HC5
  by_cases c11 : t435.toList = ([105, 100, 101, 110, 116, 105, 116, 121] : List UInt8)
  rotate_left
  ·rw [if_neg c11] at H
   have c11b0 : (t435.toList == ([105, 100, 101, 110, 116, 105, 116, 121] : List UInt8)) = false := beq_eq_false_iff_ne.mpr c11
   have c11b1 : (t435.toList != ([105, 100, 101, 110, 116, 105, 116, 121] : List UInt8)) = true := bne_iff_ne.mpr c11
   (first | rw [c11b0] | (simp only [i64_w, i32_w]; rw [c11b0]) | skip)
   have H' := Az.mk H
   clear H
   go_wp2
   go_meet
   case rel => exact ⟨_, ((t435.toList != ([112, 101, 114, 105, 111, 100, 105, 99] : List UInt8))), rq2, H', ⟨by first | omega | exact Nat.le_refl _⟩, ⟨bk1 BK433⟩, ⟨bw_21⟩⟩
  rw [if_pos c11] at H
  have c11b0 : (t435.toList == ([105, 100, 101, 110, 116, 105, 116, 121] : List UInt8)) = true := beq_iff_eq.mpr c11
  have c11b1 : (t435.toList != ([105, 100, 101, 110, 116, 105, 116, 121] : List UInt8)) = false := bne_eq_false_iff_eq.mpr c11
  clear c11
  (first | rw [c11b0] | (simp only [i64_w, i32_w]; rw [c11b0]) | skip)
  have H' := Az.mk H
  clear H
  go_wp2
  go_meet
  case rel => exact ⟨_, (false), rq2, H', ⟨by first | omega | exact Nat.le_refl _⟩, ⟨bk1 BK433⟩, ⟨bw_21⟩⟩
 clear HC5
 try clear c3
 try clear c11
 try clear c11b0
 try clear c11b1
 try clear hcz7_0
 try clear hcz7_1
 try clear hcz7_2
 try clear hcz7_3
 try clear hcz9_0
 try clear hcz9_1
 try clear hcz9_2
 try clear hcz9_3
 try clear hfz7_0
 try clear hfz7_1
 try clear hfz7_2
 try clear hfz7_3
 try clear hfz9_0
 try clear hfz9_1
 try clear hfz9_2
 try clear hfz9_3
 obtain ⟨kq, x18_4, rfl, HA, HJ4, BK433, HB⟩ := hcut
 cases kq with
 | zero => exact absurd HA.out (by simp [impl_OrderOf.j0])
 | succ kj4 =>
  have H := HA.out
  clear HA
  simp only [impl_OrderOf.j0] at H
  by_cases c12 : x18_4 = true
  ·subst c12
   rw [if_pos rfl] at H
   obtain rfl := Option.some.inj H
   go_wp2
   go_ret
   exact ⟨rq1, bw_21⟩
  replace c12 := Bool.eq_false_iff.mpr c12
  subst c12
  rw [if_neg (show ¬ (false = true) by decide)] at H
  have H' := Az.mk H
  clear H
  have hcz13_0 := bkc0 BK433
  have hcz13_1 := bkc1 BK433
  have hcz13_2 := bkc2 BK433
  have hcz13_3 := bkc3 BK433
  have hfz13_0 := bkF BK433.out 0
  have hfz13_1 := bkF BK433.out 1
  have hfz13_2 := bkF BK433.out 2
  have hfz13_3 := bkF BK433.out 3
  go_wp2_with (first | ((with_reducible refine gtD (N := 4) rfl ?_); refine bx (N := 4) (cs := #[.int .i64 0, .int .i64 0, .int .i64 0, .int .i64 0]) (t := 25) ?_; intro gb436 hg w14 hbox hb; have BK436 := Az.mk (hbox); have GW436 := gwz hg bw_21; have GE436 := gwz hg bw_21; replace HB := Az.mk (bwT bw_21 hb); have NB433_436 := nlt BK433 hg; have NB436_433 := ngt BK433 hg; replace BK433 := bkz BK433 hb; clear hb hbox hg; have hnb15 := NB436_433.out; have hnc15 := NB433_436.out; obtain ⟨hcz16_0, hcz16_1, hcz16_2, hcz16_3, hfz16_0, hfz16_1, hfz16_2, hfz16_3⟩ := bq4 BK436))
  go_loopg [5] kj4 (fun kq v5 w' => ∃ (x5_2 : Int) (x437000_2 : Int) (x437001_2 : Int) (x437002_2 : Int) (x437003_2 : Int), v5 = .int .i64 x5_2 ∧ Az (impl_OrderOf.l0 kq x5_2 a0_0 a0_1 a0_2 a0_3 x437000_2 x437001_2 x437002_2 x437003_2 = some r) ∧ Az (kq ≤ kj4) ∧ Az (w'.heap[gb433]? = some (.cells #[.int .i64 a0_0, .int .i64 a0_1, .int .i64 a0_2, .int .i64 a0_3] 25 (0, 0))) ∧ Az (w'.heap[gb436]? = some (.cells #[.int .i64 x437000_2, .int .i64 x437001_2, .int .i64 x437002_2, .int .i64 x437003_2] 25 (0, 0))) ∧ Az (Below w.heap.size w w'))
  case atStart => exact ⟨(1), (a0_0), (a0_1), (a0_2), (a0_3), rq2, H', ⟨Nat.le_refl _⟩, ⟨bkv⟩, ⟨bkv⟩, ⟨bw_21⟩⟩
  clear H'
  try clear c3
  try clear c11
  try clear c11b0
  try clear c11b1
  try clear c12
  try clear hcz13_0
  try clear hcz13_1
  try clear hcz13_2
  try clear hcz13_3
  try clear hcz16_0
  try clear hcz16_1
  try clear hcz16_2
  try clear hcz16_3
  try clear hcz7_0
  try clear hcz7_1
  try clear hcz7_2
  try clear hcz7_3
  try clear hcz9_0
  try clear hcz9_1
  try clear hcz9_2
  try clear hcz9_3
  try clear hfz13_0
  try clear hfz13_1
  try clear hfz13_2
  try clear hfz13_3
  try clear hfz16_0
  try clear hfz16_1
  try clear hfz16_2
  try clear hfz16_3
  try clear hfz7_0
  try clear hfz7_1
  try clear hfz7_2
  try clear hfz7_3
  try clear hfz9_0
  try clear hfz9_1
  try clear hfz9_2
  try clear hfz9_3
  obtain ⟨x5_2, x437000_2, x437001_2, x437002_2, x437003_2, rfl, HA, HK2, BK433, BK436, HB⟩ := hrel
  cases gk with
  | zero => exact absurd HA.out (by simp [impl_OrderOf.l0])
  | succ k2 =>
   have H := HA.out
   clear HA
   simp only [impl_OrderOf.l0] at H
   by_cases c17 : x5_2 ≤ 12
   rotate_left
   ·rw [if_neg c17] at H
    have c17b0 : decide (x5_2 ≤ 12) = false := decide_eq_false c17
    clear c17
    obtain rfl := Option.some.inj H
    go_wp2
    go_ret
    exact ⟨rq1, bw_21⟩
   rw [if_pos c17] at H
   have c17b0 : decide (x5_2 ≤ 12) = true := decide_eq_true c17
   clear c17
   replace H := bez H
   obtain ⟨⟨t437, t438, t439, t440⟩, A18, H⟩ := H
   try dsimp only at H
   by_cases c19 : (x437000_2 == t437 && (x437001_2 == t438 && (x437002_2 == t439 && (x437003_2 == t440)))) = true
   ·rw [if_pos c19] at H
    have c19b0 : (x437000_2 == t437 && (x437001_2 == t438 && (x437002_2 == t439 && (x437003_2 == t440)))) = true := c19
    (try (have c19b1 : decide (x437000_2 = t437 && (x437001_2 == t438 && (x437002_2 == t439 && (x437003_2 == t440)))) = true := by simpa using c19))
    (try (have c19b2 : (x437000_2 == t437 && (x437001_2 == t438 && (x437002_2 == t439 && (x437003_2 == t440)))) = true := by simpa using c19))
    clear c19
    obtain rfl := Option.some.inj H
    try go_wp2
    replace BK433 := Az.mk (bkD BK433.out); replace BK436 := Az.mk (bkD BK436.out); replace HB := Az.mk (bwD HB.out)
    refine start_ (n := 3) (S := fun w' => w'.cell? ⟨gb436, 0, none⟩ = some (.int .i64 x437000_2) ∧ w'.cell? ⟨gb436, 1, none⟩ = some (.int .i64 x437001_2) ∧ w'.cell? ⟨gb436, 2, none⟩ = some (.int .i64 x437002_2) ∧ w'.cell? ⟨gb436, 3, none⟩ = some (.int .i64 x437003_2)) (ds := []) #[false, false, false] (by kernel_rfl) rfl rfl cs_ (fun hHeld => ?_)
    generalize wr.drew = w20 at BK433 BK436 HB hHeld ⊢
    refine take_ (i := 0) (N := some 24) (v := ?_) (a' := ?_) #[true, false, false] rfl rfl (by kernel_rfl) (fun _ _ _ h => h) (Or.inl ⟨by rfl, ?_⟩) hHeld ?_ ?_
    rotate_left
    ·rintro w' ⟨s0, s1, s2, s3⟩
     go_simp
     with_reducible rfl
    rotate_left
    ·exact acq
    refine one_ (i := 1) (N := some 25) #[true, true, false] rfl rfl (by kernel_rfl) (by decide) (fun K hK => ?_)
    refine goes_ Tryd.func48 (by kernel_rfl) rfl #[] (by rfl) rfl rfl ln_21 ?_
    with_reducible refine (impl_one.calls  t437 t438 t439 t440 _ A18.out).mono ?_
    rintro e w21 ⟨rfl, hb⟩
    refine ⟨_, rfl, ?_⟩
    replace BK433 := bkz BK433 hb; replace BK436 := bkz BK436 hb; replace HB := Az.mk (bwT bw_21 hb)
    (try clear hb)
    (try clear hb2)
    (try clear hk)
    (try clear hi)
    refine hK.out _ _ cs_ (fun hHeld => ?_)
    clear hK K
    refine norm_ (a' := ?_) ?_ ?_
    rotate_left
    ·show Act.put _ (some 25) _ = _
     exact acq
    refine pure_ (i := 2) (N := some 26) (v := ?_) (a' := ?_) #[true, true, true] rfl rfl (by kernel_rfl) (fun _ _ _ h => h) (Or.inl ⟨by rfl, ?_⟩) ?_ ?_
    rotate_left
    ·intro w'
     go_simp
     with_reducible rfl
    rotate_left
    ·exact acq
    refine done_ (by kernel_rfl) ?_
    try go_wp2
    go_ret
    exact ⟨rq1, bw_21⟩
   rw [if_neg c19] at H
   have c19b0 : (x437000_2 == t437 && (x437001_2 == t438 && (x437002_2 == t439 && (x437003_2 == t440)))) = false := by simpa using c19
   (try (have c19b1 : decide (x437000_2 = t437 && (x437001_2 == t438 && (x437002_2 == t439 && (x437003_2 == t440)))) = false := by simpa using c19))
   (try (have c19b2 : (x437000_2 == t437 && (x437001_2 == t438 && (x437002_2 == t439 && (x437003_2 == t440)))) = false := by simpa using c19))
   (try (have c19b3 : ¬ (x437000_2 = t437 && (x437001_2 == t438 && (x437002_2 == t439 && (x437003_2 == t440)))) := by simpa using c19))
   clear c19
   replace H := bez H
   obtain ⟨⟨t441, t442, t443, t444, t445⟩, A22, H⟩ := H
   try dsimp only at H
   by_cases c23 : t445 = true
   rotate_left
   ·replace c23 := Bool.eq_false_iff.mpr c23
    subst c23
    rw [if_neg (show ¬ (false = true) by decide)] at H
    obtain rfl := Option.some.inj H
    try go_wp2
    replace BK433 := Az.mk (bkD BK433.out); replace BK436 := Az.mk (bkD BK436.out); replace HB := Az.mk (bwD HB.out)
    refine start_ (n := 3) (S := fun w' => w'.cell? ⟨gb436, 0, none⟩ = some (.int .i64 x437000_2) ∧ w'.cell? ⟨gb436, 1, none⟩ = some (.int .i64 x437001_2) ∧ w'.cell? ⟨gb436, 2, none⟩ = some (.int .i64 x437002_2) ∧ w'.cell? ⟨gb436, 3, none⟩ = some (.int .i64 x437003_2)) (ds := []) #[false, false, false] (by kernel_rfl) rfl rfl cs_ (fun hHeld => ?_)
    generalize wr.drew = w35 at BK433 BK436 HB hHeld ⊢
    refine take_ (i := 0) (N := some 24) (v := ?_) (a' := ?_) #[true, false, false] rfl rfl (by kernel_rfl) (fun _ _ _ h => h) (Or.inl ⟨by rfl, ?_⟩) hHeld ?_ ?_
    rotate_left
    ·rintro w' ⟨s0, s1, s2, s3⟩
     go_simp
     with_reducible rfl
    rotate_left
    ·exact acq
    refine one_ (i := 1) (N := some 25) #[true, true, false] rfl rfl (by kernel_rfl) (by decide) (fun K hK => ?_)
    refine goes_ Tryd.func48 (by kernel_rfl) rfl #[] (by rfl) rfl rfl ln_21 ?_
    with_reducible refine (impl_one.calls  t437 t438 t439 t440 _ A18.out).mono ?_
    rintro e w36 ⟨rfl, hb⟩
    refine ⟨_, rfl, ?_⟩
    replace BK433 := bkz BK433 hb; replace BK436 := bkz BK436 hb; replace HB := Az.mk (bwT bw_21 hb)
    (try clear hb)
    (try clear hb2)
    (try clear hk)
    (try clear hi)
    refine hK.out _ _ cs_ (fun hHeld => ?_)
    clear hK K
    refine norm_ (a' := ?_) ?_ ?_
    rotate_left
    ·show Act.put _ (some 25) _ = _
     exact acq
    refine pure_ (i := 2) (N := some 26) (v := ?_) (a' := ?_) #[true, true, true] rfl rfl (by kernel_rfl) (fun _ _ _ h => h) (Or.inl ⟨by rfl, ?_⟩) ?_ ?_
    rotate_left
    ·intro w'
     go_simp
     with_reducible rfl
    rotate_left
    ·exact acq
    refine done_ (by kernel_rfl) ?_
    have hnb37 := NB436_433.out
    have hnc37 := NB433_436.out
    have hcz38_0 := bkc0 BK436
    have hcz38_1 := bkc1 BK436
    have hcz38_2 := bkc2 BK436
    have hcz38_3 := bkc3 BK436
    have hfz38_0 := bkF BK436.out 0
    have hfz38_1 := bkF BK436.out 1
    have hfz38_2 := bkF BK436.out 2
    have hfz38_3 := bkF BK436.out 3
    have hcz39_0 := bkc0 BK433
    have hcz39_1 := bkc1 BK433
    have hcz39_2 := bkc2 BK433
    have hcz39_3 := bkc3 BK433
    have hfz39_0 := bkF BK433.out 0
    have hfz39_1 := bkF BK433.out 1
    have hfz39_2 := bkF BK433.out 2
    have hfz39_3 := bkF BK433.out 3
    try go_wp2_with (first | ((with_reducible refine gtC (f := 10) rfl ?_); refine clz Tryd.func10 (some 31) #[.agg #[.int .i64 x437000_2, .int .i64 x437001_2, .int .i64 x437002_2, .int .i64 x437003_2], .agg #[.int .i64 a0_0, .int .i64 a0_1, .int .i64 a0_2, .int .i64 a0_3]] ?_; (with_reducible refine (impl_TimesMatrix.calls k2 x437000_2 x437001_2 x437002_2 x437003_2 a0_0 a0_1 a0_2 a0_3 t441 t442 t443 t444 false _ A22.out).mono ?_); rintro e w40 ⟨rfl, hb⟩; refine ⟨_, rfl, ?_⟩; replace BK433 := bkz BK433 hb; replace BK436 := bkz BK436 hb; replace HB := Az.mk (bwT bw_21 hb); (try clear hb)) | ((with_reducible refine gtD (N := 6) rfl ?_); refine bx (N := 6) (cs := #[.int .i64 0, .int .i64 0, .int .i64 0, .int .i64 0]) (t := 25) ?_; intro gb446 hg w41 hbox hb; have BK446 := Az.mk (hbox); have GW446 := gwz hg bw_21; have GE446 := gwz hg bw_21; replace HB := Az.mk (bwT bw_21 hb); have NB433_446 := nlt BK433 hg; have NB446_433 := ngt BK433 hg; replace BK433 := bkz BK433 hb; have NB436_446 := nlt BK436 hg; have NB446_436 := ngt BK436 hg; replace BK436 := bkz BK436 hb; clear hb hbox hg; have hnb42 := NB446_433.out; have hnc42 := NB433_446.out; have hnb43 := NB446_436.out; have hnc43 := NB436_446.out; obtain ⟨hcz44_0, hcz44_1, hcz44_2, hcz44_3, hfz44_0, hfz44_1, hfz44_2, hfz44_3⟩ := bq4 BK446))
    go_ret
    exact ⟨rq1, bw_21⟩
   subst c23
   rw [if_pos rfl] at H
   have H' := Az.mk H
   clear H
   try go_wp2
   replace BK433 := Az.mk (bkD BK433.out); replace BK436 := Az.mk (bkD BK436.out); replace HB := Az.mk (bwD HB.out)
   refine start_ (n := 3) (S := fun w' => w'.cell? ⟨gb436, 0, none⟩ = some (.int .i64 x437000_2) ∧ w'.cell? ⟨gb436, 1, none⟩ = some (.int .i64 x437001_2) ∧ w'.cell? ⟨gb436, 2, none⟩ = some (.int .i64 x437002_2) ∧ w'.cell? ⟨gb436, 3, none⟩ = some (.int .i64 x437003_2)) (ds := []) #[false, false, false] (by kernel_rfl) rfl rfl cs_ (fun hHeld => ?_)
   generalize wr.drew = w24 at BK433 BK436 HB hHeld ⊢
   refine take_ (i := 0) (N := some 24) (v := ?_) (a' := ?_) #[true, false, false] rfl rfl (by kernel_rfl) (fun _ _ _ h => h) (Or.inl ⟨by rfl, ?_⟩) hHeld ?_ ?_
   rotate_left
   ·rintro w' ⟨s0, s1, s2, s3⟩
    go_simp
    with_reducible rfl
   rotate_left
   ·exact acq
   refine one_ (i := 1) (N := some 25) #[true, true, false] rfl rfl (by kernel_rfl) (by decide) (fun K hK => ?_)
   refine goes_ Tryd.func48 (by kernel_rfl) rfl #[] (by rfl) rfl rfl ln_21 ?_
   with_reducible refine (impl_one.calls  t437 t438 t439 t440 _ A18.out).mono ?_
   rintro e w25 ⟨rfl, hb⟩
   refine ⟨_, rfl, ?_⟩
   replace BK433 := bkz BK433 hb; replace BK436 := bkz BK436 hb; replace HB := Az.mk (bwT bw_21 hb)
   (try clear hb)
   (try clear hb2)
   (try clear hk)
   (try clear hi)
   refine hK.out _ _ cs_ (fun hHeld => ?_)
   clear hK K
   refine norm_ (a' := ?_) ?_ ?_
   rotate_left
   ·show Act.put _ (some 25) _ = _
    exact acq
   refine pure_ (i := 2) (N := some 26) (v := ?_) (a' := ?_) #[true, true, true] rfl rfl (by kernel_rfl) (fun _ _ _ h => h) (Or.inl ⟨by rfl, ?_⟩) ?_ ?_
   rotate_left
   ·intro w'
    go_simp
    with_reducible rfl
   rotate_left
   ·exact acq
   refine done_ (by kernel_rfl) ?_
   have hnb26 := NB436_433.out
   have hnc26 := NB433_436.out
   have hcz27_0 := bkc0 BK436
   have hcz27_1 := bkc1 BK436
   have hcz27_2 := bkc2 BK436
   have hcz27_3 := bkc3 BK436
   have hfz27_0 := bkF BK436.out 0
   have hfz27_1 := bkF BK436.out 1
   have hfz27_2 := bkF BK436.out 2
   have hfz27_3 := bkF BK436.out 3
   have hcz28_0 := bkc0 BK433
   have hcz28_1 := bkc1 BK433
   have hcz28_2 := bkc2 BK433
   have hcz28_3 := bkc3 BK433
   have hfz28_0 := bkF BK433.out 0
   have hfz28_1 := bkF BK433.out 1
   have hfz28_2 := bkF BK433.out 2
   have hfz28_3 := bkF BK433.out 3
   try go_wp2_with (first | ((with_reducible refine gtC (f := 10) rfl ?_); refine clz Tryd.func10 (some 31) #[.agg #[.int .i64 x437000_2, .int .i64 x437001_2, .int .i64 x437002_2, .int .i64 x437003_2], .agg #[.int .i64 a0_0, .int .i64 a0_1, .int .i64 a0_2, .int .i64 a0_3]] ?_; (with_reducible refine (impl_TimesMatrix.calls k2 x437000_2 x437001_2 x437002_2 x437003_2 a0_0 a0_1 a0_2 a0_3 t441 t442 t443 t444 true _ A22.out).mono ?_); rintro e w29 ⟨rfl, hb⟩; refine ⟨_, rfl, ?_⟩; replace BK433 := bkz BK433 hb; replace BK436 := bkz BK436 hb; replace HB := Az.mk (bwT bw_21 hb); (try clear hb)) | ((with_reducible refine gtD (N := 6) rfl ?_); refine bx (N := 6) (cs := #[.int .i64 0, .int .i64 0, .int .i64 0, .int .i64 0]) (t := 25) ?_; intro gb446 hg w30 hbox hb; have BK446 := Az.mk (hbox); have GW446 := gwz hg bw_21; have GE446 := gwz hg bw_21; replace HB := Az.mk (bwT bw_21 hb); have NB433_446 := nlt BK433 hg; have NB446_433 := ngt BK433 hg; replace BK433 := bkz BK433 hb; have NB436_446 := nlt BK436 hg; have NB446_436 := ngt BK436 hg; replace BK436 := bkz BK436 hb; clear hb hbox hg; have hnb31 := NB446_433.out; have hnc31 := NB433_446.out; have hnb32 := NB446_436.out; have hnc32 := NB436_446.out; obtain ⟨hcz33_0, hcz33_1, hcz33_2, hcz33_3, hfz33_0, hfz33_1, hfz33_2, hfz33_3⟩ := bq4 BK446; obtain ⟨hcz34_0, hcz34_1, hcz34_2, hcz34_3, hfz34_0, hfz34_1, hfz34_2, hfz34_3⟩ := bq4 BK436))
   go_roundg k2
   case measure => have := HJ4.out; have := HK2.out; omega
   case rel => exact ⟨(wrap64 (x5_2 + 1)), (t441), (t442), (t443), (t444), rq2, H', ⟨by have := HJ4.out; have := HK2.out; omega⟩, ⟨bkv⟩, ⟨bkv⟩, ⟨bw_21⟩⟩

end Go.Proofs.YtnoiijdffdpabaaDoor.P
