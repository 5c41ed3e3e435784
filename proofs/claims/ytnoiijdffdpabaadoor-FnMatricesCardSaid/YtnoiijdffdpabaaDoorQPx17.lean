-- By this session's driver (wip/tools/mk.py) of the kit's print program, over several statements at once. Not trusted: Lean checks it.
import Derived.Test.YtnoiijdffdpabaaDoorQWZip
import Derived.Test.YtnoiijdffdpabaaDoorQPx0
import Derived.Test.YtnoiijdffdpabaaDoorQPx9
import Derived.Test.YtnoiijdffdpabaaDoorQPx12
import Derived.Test.YtnoiijdffdpabaaDoorQPx14
namespace Go.Proofs.YtnoiijdffdpabaaDoor.P
open Go.RowKit Go.Proofs.YtnoiijdffdpabaaDoorW.PrintWords Go.Proofs.YtnoiijdffdpabaaDoorW.PrintLast Go.Proofs.YtnoiijdffdpabaaDoorW.PrintMore
attribute [local go_sem] max2_int min2_int max_two min_two max_three min_three max_four min_four   -- for this text's walks alone
set_option linter.unusedVariables false
set_option linter.unusedSimpArgs false
theorem bw_17 {n : Nat} {v v' : World} (h : Below n v v' := by repeat (first | (with_reducible first | exact HB.out | apply bwA | apply pbN | apply bwD | refine bwS ?_ GE408.out) | exact HB.out)) : Below n v v' := h
theorem ln_17 {P : Prop} (h : P := by (try simp only [List.map_toArray, List.map_cons, List.map_nil]); first | done | rfl | (simp only [List.length_drop, List.length_take]; rfl)) : P := h
open Option renaming bind_eq_some_iff → be

/-! ### spec_DrawTurnsTo: function 18 -/
def spec_DrawTurnsTo.f (k : Nat) (l0 : List Int) : Option (Int × Int) := (spec_l1New.f k l0).bind fun bt398 => ((spec_l12Draw.f k bt398.1 bt398.2.1 bt398.2.2).bind fun bt402 => ((spec_l3Abs.f bt402.1).bind fun t407 => (some (t407, bt402.2.1))))
theorem spec_DrawTurnsTo.mono : ∀ a0 k, LeO (spec_DrawTurnsTo.f k a0) (spec_DrawTurnsTo.f (k + 1) a0) := by
 intro a0 k
 unfold spec_DrawTurnsTo.f
 exact mo_
instance spec_DrawTurnsTo.mi {a0 k} : MoO (spec_DrawTurnsTo.f k a0) (spec_DrawTurnsTo.f (k + 1) a0) := ⟨spec_DrawTurnsTo.mono _ _⟩
set_option maxHeartbeats 8000000 in
set_option maxRecDepth 100000 in
theorem spec_DrawTurnsTo.calls (k : Nat) (A0 : Option Addr) (c0 : Nat) (l0 : List Int) (r1 : Int) (r2 : Int) (w : World) (hr0 : Kd.C (Kd.int .u8) w A0 l0.length l0) (hc0 : l0.length ≤ c0) (h : spec_DrawTurnsTo.f k l0 = some (r1, r2)) :
  Calls Tryd.prog 18 #[.slice A0 l0.length c0] w fun e w' => e = .returned (.agg #[.int .i64 r1, .int .i64 r2]) ∧ Below w.heap.size w w' := by
 have hu35 := Tryd.underlying35
 have HR0 := Az.mk hr0
 have HC0 := Az.mk hc0
 clear hr0 hc0
 have HB := Az.mk (Below.refl w.heap.size w)
 have H : ((spec_l1New.f k l0).bind fun bt398 => ((spec_l12Draw.f k bt398.1 bt398.2.1 bt398.2.2).bind fun bt402 => ((spec_l3Abs.f bt402.1).bind fun t407 => (some (t407, bt402.2.1))))) = some (r1, r2) := h
 clear h
 replace H := bez H
 obtain ⟨⟨t398, t399, t400⟩, A2, H⟩ := H
 try dsimp only at H
 replace H := bez H
 obtain ⟨⟨t402, t403, t404, t405⟩, A3, H⟩ := H
 try dsimp only at H
 replace H := bez H
 obtain ⟨t407, A4, H⟩ := H
 try dsimp only at H
 simp only [Option.some.injEq, Prod.mk.injEq] at H
 obtain ⟨rfl, rfl⟩ := H
 go_enter Tryd.func18, Tryd.ntmps18
 go_wp2_with (first | ((with_reducible refine gtD (N := 2) rfl ?_); refine bx (N := 2) (cs := #[.int .i64 0, .int .i64 0]) (t := 35) ?_; intro gb397 hg w5 hbox hb; have BK397 := Az.mk (hbox); have GW397 := gwz hg bw_17; have GE397 := gwz hg bw_17; replace HB := Az.mk (bwT bw_17 hb); clear hb hbox hg) | ((with_reducible refine gtC (f := 37) rfl ?_); refine clz Tryd.func37 (some 6) #[.slice A0 l0.length c0] ?_; (with_reducible refine (spec_l1New.calls k _ _ l0 t398 t399 t400 w _ ?side1 ?side2 ?side3 A2.out).mono ?_); (case side1 => exact bw_17); (case side2 => exact HR0.out); (case side3 => exact HC0.out); rintro e w6 ⟨g401, rfl, hi, hb, hb2⟩; refine ⟨_, rfl, ?_⟩; replace HB := Az.mk (hb); have HI401 := Az.mk (hi); have NB401_397 := Az.mk (IsS71.ne_blk hi (bkB (g := gb397) (o := .cells #[.int .i64 0, .int .i64 0] 35 (0, 0)) (bk1 BK397) hb2) (by decide)); have NB397_401 := Az.mk (Ne.symm (IsS71.ne_blk hi (bkB (g := gb397) (o := .cells #[.int .i64 0, .int .i64 0] 35 (0, 0)) (bk1 BK397) hb2) (by decide))); replace BK397 := Az.mk (bkB (g := gb397) (o := .cells #[.int .i64 0, .int .i64 0] 35 (0, 0)) (bk1 BK397) hb2); (try clear hb); (try clear hb2); (try clear hi)) | ((with_reducible refine gtC (f := 40) rfl ?_); refine clz Tryd.func40 (some 8) #[.pointer (some ⟨g401, 0, none⟩)] ?_; (with_reducible refine (spec_l12Draw.calls k g401 t398 t399 t400 t402 t403 t404 t405 w _ ?side1 ?side2 A3.out).mono ?_); (case side1 => exact (by repeat (first | (with_reducible first | exact HI401.out | apply IsS71.alloc | apply IsS71.drewN | apply IsS71.drew | apply IsS71.set_1 | apply IsS71.set_2 | refine IsS71.far ?_ NB401_397.out _) | exact HI401.out))); (case side2 => repeat (first | (with_reducible first | exact HB.out | apply bwA | apply pbN | apply bwD | refine bwS ?_ (IsS71.ge HI401.out) | refine bwS ?_ GE397.out) | exact HB.out)); rintro e w7 ⟨rfl, hi, hb, hk⟩; refine ⟨_, rfl, ?_⟩; replace BK397 := bkk BK397 hk NB397_401; replace HB := Az.mk (hb); replace HI401 := Az.mk (hi); (try clear hb); (try clear hk); (try clear hi)) | ((with_reducible refine gtD (N := 4) rfl ?_); refine bx (N := 4) (cs := #[.int .i64 0, .int .i64 0]) (t := 35) ?_; intro gb406 hg w8 hbox hb; have BK406 := Az.mk (hbox); have GW406 := Az.mk ((by rw [hg]; exact (bwZ (by repeat (first | (with_reducible first | exact HB.out | apply bwA | apply pbN | apply bwD | refine bwS ?_ (IsS71.ge HI401.out) | refine bwS ?_ GE397.out) | exact HB.out))) : w.heap.size ≤ gb406)); have GE406 := Az.mk ((by rw [hg]; exact (bwZ (by repeat (first | (with_reducible first | exact HB.out | apply bwA | apply pbN | apply bwD | refine bwS ?_ (IsS71.ge HI401.out) | refine bwS ?_ GE397.out) | exact HB.out))) : w.heap.size ≤ gb406)); replace HB := Az.mk (bwT (by repeat (first | (with_reducible first | exact HB.out | apply bwA | apply pbN | apply bwD | refine bwS ?_ (IsS71.ge HI401.out) | refine bwS ?_ GE397.out) | exact HB.out)) hb); have NB397_406 := nlt BK397 hg; have NB406_397 := ngt BK397 hg; replace BK397 := bkz BK397 hb; have NB401_406 := Az.mk ((by rw [hg]; exact Nat.ne_of_lt (IsS71.lt (show IsS71 w _ g401 t398 t404 t405 from by repeat (first | (with_reducible first | exact HI401.out | apply IsS71.alloc | apply IsS71.drewN | apply IsS71.drew | apply IsS71.set_1 | apply IsS71.set_2 | refine IsS71.far ?_ NB401_397.out _) | exact HI401.out))) : g401 ≠ gb406)); have NB406_401 := Az.mk ((by rw [hg]; exact Nat.ne_of_gt (IsS71.lt (show IsS71 w _ g401 t398 t404 t405 from by repeat (first | (with_reducible first | exact HI401.out | apply IsS71.alloc | apply IsS71.drewN | apply IsS71.drew | apply IsS71.set_1 | apply IsS71.set_2 | refine IsS71.far ?_ NB401_397.out _) | exact HI401.out))) : gb406 ≠ g401)); replace HI401 := Az.mk (IsS71.below (by repeat (first | (with_reducible first | exact HI401.out | apply IsS71.alloc | apply IsS71.drewN | apply IsS71.drew | apply IsS71.set_1 | apply IsS71.set_2 | refine IsS71.far ?_ NB401_397.out _) | exact HI401.out)) hb); clear hb hbox hg; have hnb9 := NB406_397.out; have hnc9 := NB397_406.out; have hnb10 := NB406_401.out; have hnc10 := NB401_406.out; obtain ⟨hcz11_0, hcz11_1, hfz11_0, hfz11_1⟩ := bq2 BK406) | ((with_reducible refine gtC (f := 51) rfl ?_); refine clz Tryd.func51 (some 11) #[.int .i64 t402] ?_; (with_reducible refine (spec_l3Abs.calls t402 t407 _ A4.out).mono ?_); rintro e w' ⟨rfl, ⟨nd, rfl⟩⟩; refine ⟨_, rfl, ?_⟩; have hnb12 := NB397_401.out; have hnc12 := NB401_397.out; obtain ⟨hcz13_0, hcz13_1, hfz13_0, hfz13_1⟩ := bq2 BK397))
 refine bodyPost_ret (results_cell_row rfl _ _ gb397 35 #[.int .i64 t407, .int .i64 t403] (0, 0) _ rfl bkv Tryd.underlying35 rfl (by kernel_rfl)) rfl ?_
 exact ⟨rq1, by repeat (first | (with_reducible first | exact HB.out | apply bwA | apply pbN | apply bwD | refine bwS ?_ (IsS71.ge HI401.out) | refine bwS ?_ GE397.out | refine bwS ?_ GE406.out) | exact HB.out)⟩

/-! ### impl_TurnsTo: function 19 -/
mutual
def impl_TurnsTo.j0 : Nat → Bool → Int → Int → Option (ByteArray)
 | 0, _, _, _ => none
 | k + 1, x16, x409000, x409001 => if x16 = true then (some (⟨#[]⟩ : ByteArray)) else (impl_TurnsTo.l0 k (⟨#[]⟩ : ByteArray) x409000 x409001)
def impl_TurnsTo.l0 : Nat → ByteArray → Int → Int → Option (ByteArray)
 | 0, _, _, _ => none
 | k + 1, x3, x409000, x409001 => if x409000 = x409001 then (some x3) else (if (x3.size : Int) = 24 then (some (⟨#[]⟩ : ByteArray)) else (if x409000 > x409001 then (if x3.size + 1 ≤ 9223372036854775807 then (impl_TurnsTo.l0 k (x3 ++ (⟨#[82]⟩ : ByteArray)) (wrap64 (x409000 - x409001)) x409001) else (none)) else (if x3.size + 1 ≤ 9223372036854775807 then (impl_TurnsTo.l0 k (x3 ++ (⟨#[76]⟩ : ByteArray)) x409000 (wrap64 (x409001 - x409000))) else (none))))
end
def impl_TurnsTo.f (k : Nat) (a0_0 : Int) (a0_1 : Int) : Option (ByteArray) := (impl_IsSlope.f k a0_0 a0_1).bind fun t409 => (if t409 = true then (if a0_0 < 1 then (impl_TurnsTo.j0 k true a0_0 a0_1) else (impl_TurnsTo.j0 k (decide (a0_1 < 1)) a0_0 a0_1)) else (impl_TurnsTo.j0 k true a0_0 a0_1))
theorem impl_TurnsTo.mono_l : ∀ k, (∀ y0 y1 y2, LeO (impl_TurnsTo.j0 k y0 y1 y2) (impl_TurnsTo.j0 (k + 1) y0 y1 y2)) ∧ (∀ y0 y1 y2, LeO (impl_TurnsTo.l0 k y0 y1 y2) (impl_TurnsTo.l0 (k + 1) y0 y1 y2))
 | 0 => ⟨fun _ _ _ r h => by simp [impl_TurnsTo.j0] at h, fun _ _ _ r h => by simp [impl_TurnsTo.l0] at h⟩
 | k + 1 => by
  obtain ⟨ih0, ih1⟩ := impl_TurnsTo.mono_l k
  have i0 := fun z0 z1 z2 => MoO.mk (ih0 z0 z1 z2)
  have i1 := fun z0 z1 z2 => MoO.mk (ih1 z0 z1 z2)
  refine ⟨?_, ?_⟩
  ·intro y0 y1 y2
   unfold impl_TurnsTo.j0
   exact mo_
  intro y0 y1 y2
  unfold impl_TurnsTo.l0
  exact mo_
theorem impl_TurnsTo.mono : ∀ a0 a1 k, LeO (impl_TurnsTo.f k a0 a1) (impl_TurnsTo.f (k + 1) a0 a1) := by
 intro a0 a1 k
 obtain ⟨ih0, ih1⟩ := impl_TurnsTo.mono_l k
 have i0 := fun z0 z1 z2 => MoO.mk (ih0 z0 z1 z2)
 have i1 := fun z0 z1 z2 => MoO.mk (ih1 z0 z1 z2)
 unfold impl_TurnsTo.f
 exact mo_
instance impl_TurnsTo.mi {a0 a1 k} : MoO (impl_TurnsTo.f k a0 a1) (impl_TurnsTo.f (k + 1) a0 a1) := ⟨impl_TurnsTo.mono _ _ _⟩
set_option maxHeartbeats 8000000 in
set_option maxRecDepth 100000 in
theorem impl_TurnsTo.calls (k : Nat) (a0_0 : Int) (a0_1 : Int) (r : ByteArray) (w : World) (h : impl_TurnsTo.f k a0_0 a0_1 = some r) :
  Calls Tryd.prog 19 #[.agg #[.int .i64 a0_0, .int .i64 a0_1]] w fun e w' => e = .returned (.string r) ∧ Below w.heap.size w w' := by
 have hu35 := Tryd.underlying35
 have HB := Az.mk (Below.refl w.heap.size w)
 have H : ((impl_IsSlope.f k a0_0 a0_1).bind fun t409 => (if t409 = true then (if a0_0 < 1 then (impl_TurnsTo.j0 k true a0_0 a0_1) else (impl_TurnsTo.j0 k (decide (a0_1 < 1)) a0_0 a0_1)) else (impl_TurnsTo.j0 k true a0_0 a0_1))) = some r := h
 clear h
 have HC2 := Az.mk H
 clear H
 go_enter Tryd.func19, Tryd.ntmps19
 go_upto_region 1 with (first | ((with_reducible refine gtD (N := 1) rfl ?_); refine bx (N := 1) (cs := #[.int .i64 a0_0, .int .i64 a0_1]) (t := 35) ?_; intro gb408 hg w3 hbox hb; have BK408 := Az.mk (hbox); have GW408 := gwz hg bw_17; have GE408 := gwz hg bw_17; replace HB := Az.mk (bwT bw_17 hb); clear hb hbox hg))
 (try simp only [Act.put, List.setIfInBounds_toArray, List.set_cons_zero, List.set_cons_succ])
 go_cut [16] (fun v16 wc => ∃ (kq : Nat) (x16_1 : Bool), v16 = .bool x16_1 ∧ Az (impl_TurnsTo.j0 kq x16_1 a0_0 a0_1 = some r) ∧ Az (kq ≤ k) ∧ Az (wc.heap[gb408]? = some (.cells #[.int .i64 a0_0, .int .i64 a0_1] 35 (0, 0))) ∧ Az (Below w.heap.size w wc))
 case first =>
  have H := HC2.out
  clear HC2
  replace H := bez H
  obtain ⟨t409, A4, H⟩ := H
  try dsimp only at H
  by_cases c5 : t409 = true
  rotate_left
  ·replace c5 := Bool.eq_false_iff.mpr c5
   subst c5
   rw [if_neg (show ¬ (false = true) by decide)] at H
   have H' := Az.mk H
   clear H
   have hcz13_0 := bkc0 BK408
   have hcz13_1 := bkc1 BK408
   have hfz13_0 := bkF BK408.out 0
   have hfz13_1 := bkF BK408.out 1
   go_wp2_with (first | ((with_reducible refine gtC (f := 41) rfl ?_); refine clz Tryd.func41 (some 5) #[.agg #[.int .i64 a0_0, .int .i64 a0_1]] ?_; (with_reducible refine (impl_IsSlope.calls k a0_0 a0_1 false _ A4.out).mono ?_); rintro e w14 ⟨rfl, hb⟩; refine ⟨_, rfl, ?_⟩; replace BK408 := bkz BK408 hb; replace HB := Az.mk (bwT bw_17 hb); (try clear hb)))
   go_meet
   case rel => exact ⟨_, (true), rq2, H', ⟨by first | omega | exact Nat.le_refl _⟩, ⟨bk1 BK408⟩, ⟨bw_17⟩⟩
  subst c5
  rw [if_pos rfl] at H
  by_cases c6 : a0_0 < 1
  ·rw [if_pos c6] at H
   have c6b0 : decide (a0_0 < 1) = true := decide_eq_true c6
   clear c6
   (first | rw [c6b0] | (simp only [i64_w, i32_w]; rw [c6b0]) | skip)
   have H' := Az.mk H
   clear H
   have hcz7_0 := bkc0 BK408
   have hcz7_1 := bkc1 BK408
   have hfz7_0 := bkF BK408.out 0
   have hfz7_1 := bkF BK408.out 1
   go_wp2_with (first | ((with_reducible refine gtC (f := 41) rfl ?_); refine clz Tryd.func41 (some 5) #[.agg #[.int .i64 a0_0, .int .i64 a0_1]] ?_; (with_reducible refine (impl_IsSlope.calls k a0_0 a0_1 true _ A4.out).mono ?_); rintro e w8 ⟨rfl, hb⟩; refine ⟨_, rfl, ?_⟩; replace BK408 := bkz BK408 hb; replace HB := Az.mk (bwT bw_17 hb); (try clear hb); obtain ⟨hcz9_0, hcz9_1, hfz9_0, hfz9_1⟩ := bq2 BK408))
   go_meet
   case rel => exact ⟨_, (true), rq2, H', ⟨by first | omega | exact Nat.le_refl _⟩, ⟨bk1 BK408⟩, ⟨bw_17⟩⟩
  rw [if_neg c6] at H
  have c6b0 : decide (a0_0 < 1) = false := decide_eq_false c6
  clear c6
  (first | rw [c6b0] | (simp only [i64_w, i32_w]; rw [c6b0]) | skip)
  have H' := Az.mk H
  clear H
  have hcz10_0 := bkc0 BK408
  have hcz10_1 := bkc1 BK408
  have hfz10_0 := bkF BK408.out 0
  have hfz10_1 := bkF BK408.out 1
  go_wp2_with (first | ((with_reducible refine gtC (f := 41) rfl ?_); refine clz Tryd.func41 (some 5) #[.agg #[.int .i64 a0_0, .int .i64 a0_1]] ?_; (with_reducible refine (impl_IsSlope.calls k a0_0 a0_1 true _ A4.out).mono ?_); rintro e w11 ⟨rfl, hb⟩; refine ⟨_, rfl, ?_⟩; replace BK408 := bkz BK408 hb; replace HB := Az.mk (bwT bw_17 hb); (try clear hb); obtain ⟨hcz12_0, hcz12_1, hfz12_0, hfz12_1⟩ := bq2 BK408))
  go_meet
  case rel => exact ⟨_, (decide (a0_1 < 1)), rq2, H', ⟨by first | omega | exact Nat.le_refl _⟩, ⟨bk1 BK408⟩, ⟨bw_17⟩⟩
 clear HC2
 try clear c5
 try clear c6
 try clear c6b0
 try clear hcz10_0
 try clear hcz10_1
 try clear hcz12_0
 try clear hcz12_1
 try clear hcz13_0
 try clear hcz13_1
 try clear hcz7_0
 try clear hcz7_1
 try clear hcz9_0
 try clear hcz9_1
 try clear hfz10_0
 try clear hfz10_1
 try clear hfz12_0
 try clear hfz12_1
 try clear hfz13_0
 try clear hfz13_1
 try clear hfz7_0
 try clear hfz7_1
 try clear hfz9_0
 try clear hfz9_1
 obtain ⟨kq, x16_1, rfl, HA, HJ1, BK408, HB⟩ := hcut
 cases kq with
 | zero => exact absurd HA.out (by simp [impl_TurnsTo.j0])
 | succ kj1 =>
  have H := HA.out
  clear HA
  simp only [impl_TurnsTo.j0] at H
  by_cases c15 : x16_1 = true
  ·subst c15
   rw [if_pos rfl] at H
   obtain rfl := Option.some.inj H
   go_wp2
   go_ret
   exact ⟨rq1, bw_17⟩
  replace c15 := Bool.eq_false_iff.mpr c15
  subst c15
  rw [if_neg (show ¬ (false = true) by decide)] at H
  have H' := Az.mk H
  clear H
  go_wp2
  go_loopg [3] kj1 (fun kq v3 w' => ∃ (x3_2 : ByteArray) (x409000_2 : Int) (x409001_2 : Int), v3 = .string x3_2 ∧ Az (impl_TurnsTo.l0 kq x3_2 x409000_2 x409001_2 = some r) ∧ Az (kq ≤ kj1) ∧ Az (w'.heap[gb408]? = some (.cells #[.int .i64 x409000_2, .int .i64 x409001_2] 35 (0, 0))) ∧ Az (Below w.heap.size w w'))
  case atStart => exact ⟨((⟨#[]⟩ : ByteArray)), (a0_0), (a0_1), rq2, H', ⟨Nat.le_refl _⟩, ⟨bk1 BK408⟩, ⟨bw_17⟩⟩
  clear H'
  try clear c5
  try clear c6
  try clear c6b0
  try clear c15
  try clear hcz10_0
  try clear hcz10_1
  try clear hcz12_0
  try clear hcz12_1
  try clear hcz13_0
  try clear hcz13_1
  try clear hcz7_0
  try clear hcz7_1
  try clear hcz9_0
  try clear hcz9_1
  try clear hfz10_0
  try clear hfz10_1
  try clear hfz12_0
  try clear hfz12_1
  try clear hfz13_0
  try clear hfz13_1
  try clear hfz7_0
  try clear hfz7_1
  try clear hfz9_0
  try clear hfz9_1
  obtain ⟨x3_2, x409000_2, x409001_2, rfl, HA, HK2, BK408, HB⟩ := hrel
  cases gk with
  | zero => exact absurd HA.out (by simp [impl_TurnsTo.l0])
  | succ k2 =>
   have H := HA.out
   clear HA
   simp only [impl_TurnsTo.l0] at H
   by_cases c16 : x409000_2 = x409001_2
   ·rw [if_pos c16] at H
    have c16b0 : (x409000_2 == x409001_2) = true := beq_iff_eq.mpr c16
    have c16b1 : (x409000_2 != x409001_2) = false := bne_eq_false_iff_eq.mpr c16
    clear c16
    obtain rfl := Option.some.inj H
    have hcz17_0 := bkc0 BK408
    have hcz17_1 := bkc1 BK408
    have hfz17_0 := bkF BK408.out 0
    have hfz17_1 := bkF BK408.out 1
    go_wp2
    go_ret
    exact ⟨rq1, bw_17⟩
   rw [if_neg c16] at H
   have c16b0 : (x409000_2 == x409001_2) = false := beq_eq_false_iff_ne.mpr c16
   have c16b1 : (x409000_2 != x409001_2) = true := bne_iff_ne.mpr c16
   by_cases c18 : (x3_2.size : Int) = 24
   ·rw [if_pos c18] at H
    have c18b0 : ((x3_2.size : Int) == 24) = true := beq_iff_eq.mpr c18
    have c18b1 : ((x3_2.size : Int) != 24) = false := bne_eq_false_iff_eq.mpr c18
    clear c18
    obtain rfl := Option.some.inj H
    have hcz19_0 := bkc0 BK408
    have hcz19_1 := bkc1 BK408
    have hfz19_0 := bkF BK408.out 0
    have hfz19_1 := bkF BK408.out 1
    go_wp2
    go_ret
    exact ⟨rq1, bw_17⟩
   rw [if_neg c18] at H
   have c18b0 : ((x3_2.size : Int) == 24) = false := beq_eq_false_iff_ne.mpr c18
   have c18b1 : ((x3_2.size : Int) != 24) = true := bne_iff_ne.mpr c18
   by_cases c20 : x409000_2 > x409001_2
   ·rw [if_pos c20] at H
    have c20b0 : decide (x409001_2 < x409000_2) = true := decide_eq_true c20
    clear c20
    by_cases c21 : x3_2.size + 1 ≤ 9223372036854775807
    rotate_left
    ·rw [if_neg c21] at H
     exact absurd H (by simp)
    rw [if_pos c21] at H
    have c21b0 := eq_true c21
    have c21b1 : decide (x3_2.size + 1 ≤ 9223372036854775807) = true := decide_eq_true c21
    try have c21b2 : (9223372036854775807 < x3_2.size + 1) = False := eq_false (Nat.not_lt.2 c21)
    have H' := Az.mk H
    clear H
    have hcz22_0 := bkc0 BK408
    have hcz22_1 := bkc1 BK408
    have hfz22_0 := bkF BK408.out 0
    have hfz22_1 := bkF BK408.out 1
    go_wp2
    go_roundg k2
    case measure => have := HJ1.out; have := HK2.out; omega
    case rel => exact ⟨(x3_2 ++ (⟨#[82]⟩ : ByteArray)), (wrap64 (x409000_2 - x409001_2)), (x409001_2), rq2, H', ⟨by have := HJ1.out; have := HK2.out; omega⟩, ⟨bkv⟩, ⟨bw_17⟩⟩
   rw [if_neg c20] at H
   have c20b0 : decide (x409001_2 < x409000_2) = false := decide_eq_false c20
   clear c20
   by_cases c23 : x3_2.size + 1 ≤ 9223372036854775807
   rotate_left
   ·rw [if_neg c23] at H
    exact absurd H (by simp)
   rw [if_pos c23] at H
   have c23b0 := eq_true c23
   have c23b1 : decide (x3_2.size + 1 ≤ 9223372036854775807) = true := decide_eq_true c23
   try have c23b2 : (9223372036854775807 < x3_2.size + 1) = False := eq_false (Nat.not_lt.2 c23)
   have H' := Az.mk H
   clear H
   have hcz24_0 := bkc0 BK408
   have hcz24_1 := bkc1 BK408
   have hfz24_0 := bkF BK408.out 0
   have hfz24_1 := bkF BK408.out 1
   go_wp2
   go_roundg k2
   case measure => have := HJ1.out; have := HK2.out; omega
   case rel => exact ⟨(x3_2 ++ (⟨#[76]⟩ : ByteArray)), (x409000_2), (wrap64 (x409001_2 - x409000_2)), rq2, H', ⟨by have := HJ1.out; have := HK2.out; omega⟩, ⟨bkv⟩, ⟨bw_17⟩⟩

end Go.Proofs.YtnoiijdffdpabaaDoor.P
