-- By this session's driver (wip/tools/mk.py) of the kit's print program, over several statements at once. Not trusted: Lean checks it.
import Derived.Test.YtnoiijdffdpabaaDoorQWZip
import Derived.Test.YtnoiijdffdpabaaDoorQPx0
import Derived.Test.YtnoiijdffdpabaaDoorQPx2
import Derived.Test.YtnoiijdffdpabaaDoorQPx9
import Derived.Test.YtnoiijdffdpabaaDoorQPx11
import Derived.Test.YtnoiijdffdpabaaDoorQPx12
import Derived.Test.YtnoiijdffdpabaaDoorQPx13
import Derived.Test.YtnoiijdffdpabaaDoorQPx14
import Derived.Test.YtnoiijdffdpabaaDoorQPx15
namespace Go.Proofs.YtnoiijdffdpabaaDoor.P
open Go.RowKit Go.Proofs.YtnoiijdffdpabaaDoorW.PrintWords Go.Proofs.YtnoiijdffdpabaaDoorW.PrintLast Go.Proofs.YtnoiijdffdpabaaDoorW.PrintMore
attribute [local go_sem] max2_int min2_int max_two min_two max_three min_three max_four min_four   -- for this text's walks alone
set_option linter.unusedVariables false
set_option linter.unusedSimpArgs false
theorem bw_16 {n : Nat} {v v' : World} (h : Below n v v' := by repeat (first | (with_reducible first | exact HB.out | apply bwA | apply pbN | apply bwD | refine bwS ?_ GE353.out | refine bwS ?_ GE354.out | refine bwS ?_ GE355.out | refine bwS ?_ GE361.out | refine bwS ?_ GE378.out | refine bwS ?_ GE379.out | refine bwS ?_ GE380.out | refine bwS ?_ GE385.out | refine bwS ?_ GE391.out) | exact HB.out)) : Below n v v' := h
theorem ln_16 {P : Prop} (h : P := by (try simp only [List.map_toArray, List.map_cons, List.map_nil]); first | done | rfl | (simp only [List.length_drop, List.length_take]; rfl)) : P := h
open Option renaming bind_eq_some_iff → be
theorem z16_0 {p : Prop} (h : p := by repeat (first | (with_reducible first | exact HI365.out | apply IsS71.alloc | apply IsS71.drewN | apply IsS71.drew | apply IsS71.set_1 | apply IsS71.set_2) | exact HI365.out)) : p := h

/-! ### spec_MoveSlope: function 14 -/
def spec_MoveSlope.f (k : Nat) (a0_0 : Int) (a0_1 : Int) (a0_2 : Int) (a0_3 : Int) (a1_0 : Int) (a1_1 : Int) : Option (Int × Int × Bool) := (spec_IsMatrix.f k a0_0 a0_1 a0_2 a0_3).bind fun t356 => (if t356 = true then ((spec_IsSlope.f k a1_0 a1_1).bind fun t357 => (if t357 = true then ((spec_SlopeOf.f k (wrap64 ((wrap64 (a0_0 * a1_0)) + (wrap64 (a0_1 * a1_1)))) (wrap64 ((wrap64 (a0_2 * a1_0)) + (wrap64 (a0_3 * a1_1))))).bind fun bt358 => (some (bt358.1, bt358.2.1, bt358.2.2))) else (some (0, 0, false)))) else (some (0, 0, false)))
theorem spec_MoveSlope.mono : ∀ a0 a1 a2 a3 a4 a5 k, LeO (spec_MoveSlope.f k a0 a1 a2 a3 a4 a5) (spec_MoveSlope.f (k + 1) a0 a1 a2 a3 a4 a5) := by
 intro a0 a1 a2 a3 a4 a5 k
 unfold spec_MoveSlope.f
 exact mo_
instance spec_MoveSlope.mi {a0 a1 a2 a3 a4 a5 k} : MoO (spec_MoveSlope.f k a0 a1 a2 a3 a4 a5) (spec_MoveSlope.f (k + 1) a0 a1 a2 a3 a4 a5) := ⟨spec_MoveSlope.mono _ _ _ _ _ _ _⟩
set_option maxHeartbeats 8000000 in
set_option maxRecDepth 100000 in
theorem spec_MoveSlope.calls (k : Nat) (a0_0 : Int) (a0_1 : Int) (a0_2 : Int) (a0_3 : Int) (a1_0 : Int) (a1_1 : Int) (r1 : Int) (r2 : Int) (r3 : Bool) (w : World) (h : spec_MoveSlope.f k a0_0 a0_1 a0_2 a0_3 a1_0 a1_1 = some (r1, r2, r3)) :
  Calls Tryd.prog 14 #[.agg #[.int .i64 a0_0, .int .i64 a0_1, .int .i64 a0_2, .int .i64 a0_3], .agg #[.int .i64 a1_0, .int .i64 a1_1]] w fun e w' => e = .returned (.tuple #[.agg #[.int .i64 r1, .int .i64 r2], .bool r3]) ∧ Below w.heap.size w w' := by
 have hu25 := Tryd.underlying25
 have hu35 := Tryd.underlying35
 have HB := Az.mk (Below.refl w.heap.size w)
 have H : ((spec_IsMatrix.f k a0_0 a0_1 a0_2 a0_3).bind fun t356 => (if t356 = true then ((spec_IsSlope.f k a1_0 a1_1).bind fun t357 => (if t357 = true then ((spec_SlopeOf.f k (wrap64 ((wrap64 (a0_0 * a1_0)) + (wrap64 (a0_1 * a1_1)))) (wrap64 ((wrap64 (a0_2 * a1_0)) + (wrap64 (a0_3 * a1_1))))).bind fun bt358 => (some (bt358.1, bt358.2.1, bt358.2.2))) else (some (0, 0, false)))) else (some (0, 0, false)))) = some (r1, r2, r3) := h
 clear h
 replace H := bez H
 obtain ⟨t356, A3, H⟩ := H
 try dsimp only at H
 by_cases c4 : t356 = true
 rotate_left
 ·replace c4 := Bool.eq_false_iff.mpr c4
  subst c4
  rw [if_neg (show ¬ (false = true) by decide)] at H
  simp only [Option.some.injEq, Prod.mk.injEq] at H
  obtain ⟨rfl, rfl, rfl⟩ := H
  go_enter Tryd.func14, Tryd.ntmps14
  go_wp2_with (first | ((with_reducible refine gtD (N := 2) rfl ?_); refine bx (N := 2) (cs := #[.int .i64 a0_0, .int .i64 a0_1, .int .i64 a0_2, .int .i64 a0_3]) (t := 25) ?_; intro gb353 hg w38 hbox hb; have BK353 := Az.mk (hbox); have GW353 := gwz hg bw_16; have GE353 := gwz hg bw_16; replace HB := Az.mk (bwT bw_16 hb); clear hb hbox hg) | ((with_reducible refine gtD (N := 3) rfl ?_); refine bx (N := 3) (cs := #[.int .i64 a1_0, .int .i64 a1_1]) (t := 35) ?_; intro gb354 hg w39 hbox hb; have BK354 := Az.mk (hbox); have GW354 := gwz hg bw_16; have GE354 := gwz hg bw_16; replace HB := Az.mk (bwT bw_16 hb); have NB353_354 := nlt BK353 hg; have NB354_353 := ngt BK353 hg; replace BK353 := bkz BK353 hb; clear hb hbox hg) | ((with_reducible refine gtD (N := 4) rfl ?_); refine bx (N := 4) (cs := #[.int .i64 0, .int .i64 0]) (t := 35) ?_; intro gb355 hg w40 hbox hb; have BK355 := Az.mk (hbox); have GW355 := gwz hg bw_16; have GE355 := gwz hg bw_16; replace HB := Az.mk (bwT bw_16 hb); have NB353_355 := nlt BK353 hg; have NB355_353 := ngt BK353 hg; replace BK353 := bkz BK353 hb; have NB354_355 := nlt BK354 hg; have NB355_354 := ngt BK354 hg; replace BK354 := bkz BK354 hb; clear hb hbox hg; have hnb41 := NB353_354.out; have hnc41 := NB354_353.out; have hnb42 := NB353_355.out; have hnc42 := NB355_353.out; obtain ⟨hcz43_0, hcz43_1, hcz43_2, hcz43_3, hfz43_0, hfz43_1, hfz43_2, hfz43_3⟩ := bq4 BK353) | ((with_reducible refine gtC (f := 22) rfl ?_); refine clz Tryd.func22 (some 9) #[.agg #[.int .i64 a0_0, .int .i64 a0_1, .int .i64 a0_2, .int .i64 a0_3]] ?_; (with_reducible refine (spec_IsMatrix.calls k a0_0 a0_1 a0_2 a0_3 false _ A3.out).mono ?_); rintro e w44 ⟨rfl, hb⟩; refine ⟨_, rfl, ?_⟩; replace BK353 := bkz BK353 hb; replace BK354 := bkz BK354 hb; replace BK355 := bkz BK355 hb; replace HB := Az.mk (bwT bw_16 hb); (try clear hb); have hnb45 := NB355_354.out; have hnc45 := NB354_355.out; obtain ⟨hcz46_0, hcz46_1, hfz46_0, hfz46_1⟩ := bq2 BK355))
  refine bodyPost_ret (results_ct rfl _ _ gb355 35 #[.int .i64 0, .int .i64 0] (0, 0) _ rfl bkv Tryd.underlying35 rfl (by kernel_rfl)) rfl ?_
  exact ⟨rq1, bw_16⟩
 subst c4
 rw [if_pos rfl] at H
 replace H := bez H
 obtain ⟨t357, A5, H⟩ := H
 try dsimp only at H
 by_cases c6 : t357 = true
 rotate_left
 ·replace c6 := Bool.eq_false_iff.mpr c6
  subst c6
  rw [if_neg (show ¬ (false = true) by decide)] at H
  simp only [Option.some.injEq, Prod.mk.injEq] at H
  obtain ⟨rfl, rfl, rfl⟩ := H
  go_enter Tryd.func14, Tryd.ntmps14
  go_wp2_with (first | ((with_reducible refine gtD (N := 2) rfl ?_); refine bx (N := 2) (cs := #[.int .i64 a0_0, .int .i64 a0_1, .int .i64 a0_2, .int .i64 a0_3]) (t := 25) ?_; intro gb353 hg w27 hbox hb; have BK353 := Az.mk (hbox); have GW353 := gwz hg bw_16; have GE353 := gwz hg bw_16; replace HB := Az.mk (bwT bw_16 hb); clear hb hbox hg) | ((with_reducible refine gtD (N := 3) rfl ?_); refine bx (N := 3) (cs := #[.int .i64 a1_0, .int .i64 a1_1]) (t := 35) ?_; intro gb354 hg w28 hbox hb; have BK354 := Az.mk (hbox); have GW354 := gwz hg bw_16; have GE354 := gwz hg bw_16; replace HB := Az.mk (bwT bw_16 hb); have NB353_354 := nlt BK353 hg; have NB354_353 := ngt BK353 hg; replace BK353 := bkz BK353 hb; clear hb hbox hg) | ((with_reducible refine gtD (N := 4) rfl ?_); refine bx (N := 4) (cs := #[.int .i64 0, .int .i64 0]) (t := 35) ?_; intro gb355 hg w29 hbox hb; have BK355 := Az.mk (hbox); have GW355 := gwz hg bw_16; have GE355 := gwz hg bw_16; replace HB := Az.mk (bwT bw_16 hb); have NB353_355 := nlt BK353 hg; have NB355_353 := ngt BK353 hg; replace BK353 := bkz BK353 hb; have NB354_355 := nlt BK354 hg; have NB355_354 := ngt BK354 hg; replace BK354 := bkz BK354 hb; clear hb hbox hg; have hnb30 := NB353_354.out; have hnc30 := NB354_353.out; have hnb31 := NB353_355.out; have hnc31 := NB355_353.out; obtain ⟨hcz32_0, hcz32_1, hcz32_2, hcz32_3, hfz32_0, hfz32_1, hfz32_2, hfz32_3⟩ := bq4 BK353) | ((with_reducible refine gtC (f := 22) rfl ?_); refine clz Tryd.func22 (some 9) #[.agg #[.int .i64 a0_0, .int .i64 a0_1, .int .i64 a0_2, .int .i64 a0_3]] ?_; (with_reducible refine (spec_IsMatrix.calls k a0_0 a0_1 a0_2 a0_3 true _ A3.out).mono ?_); rintro e w33 ⟨rfl, hb⟩; refine ⟨_, rfl, ?_⟩; replace BK353 := bkz BK353 hb; replace BK354 := bkz BK354 hb; replace BK355 := bkz BK355 hb; replace HB := Az.mk (bwT bw_16 hb); (try clear hb); have hnb34 := NB354_355.out; have hnc34 := NB355_354.out; obtain ⟨hcz35_0, hcz35_1, hfz35_0, hfz35_1⟩ := bq2 BK354) | (go_at_call 43; (with_reducible refine (spec_IsSlope.calls k a1_0 a1_1 false _ A5.out).mono ?_); rintro e w36 ⟨rfl, hb⟩; replace BK353 := bkz BK353 hb; replace BK354 := bkz BK354 hb; replace BK355 := bkz BK355 hb; replace HB := Az.mk (bwT bw_16 hb); (try clear hb); obtain ⟨hcz37_0, hcz37_1, hfz37_0, hfz37_1⟩ := bq2 BK355))
  refine bodyPost_ret (results_ct rfl _ _ gb355 35 #[.int .i64 0, .int .i64 0] (0, 0) _ rfl bkv Tryd.underlying35 rfl (by kernel_rfl)) rfl ?_
  exact ⟨rq1, bw_16⟩
 subst c6
 rw [if_pos rfl] at H
 replace H := bez H
 obtain ⟨⟨t358, t359, t360⟩, A7, H⟩ := H
 try dsimp only at H
 simp only [Option.some.injEq, Prod.mk.injEq] at H
 obtain ⟨rfl, rfl, rfl⟩ := H
 go_enter Tryd.func14, Tryd.ntmps14
 go_wp2_with (first | ((with_reducible refine gtD (N := 2) rfl ?_); refine bx (N := 2) (cs := #[.int .i64 a0_0, .int .i64 a0_1, .int .i64 a0_2, .int .i64 a0_3]) (t := 25) ?_; intro gb353 hg w8 hbox hb; have BK353 := Az.mk (hbox); have GW353 := gwz hg bw_16; have GE353 := gwz hg bw_16; replace HB := Az.mk (bwT bw_16 hb); clear hb hbox hg) | ((with_reducible refine gtD (N := 3) rfl ?_); refine bx (N := 3) (cs := #[.int .i64 a1_0, .int .i64 a1_1]) (t := 35) ?_; intro gb354 hg w9 hbox hb; have BK354 := Az.mk (hbox); have GW354 := gwz hg bw_16; have GE354 := gwz hg bw_16; replace HB := Az.mk (bwT bw_16 hb); have NB353_354 := nlt BK353 hg; have NB354_353 := ngt BK353 hg; replace BK353 := bkz BK353 hb; clear hb hbox hg) | ((with_reducible refine gtD (N := 4) rfl ?_); refine bx (N := 4) (cs := #[.int .i64 0, .int .i64 0]) (t := 35) ?_; intro gb355 hg w10 hbox hb; have BK355 := Az.mk (hbox); have GW355 := gwz hg bw_16; have GE355 := gwz hg bw_16; replace HB := Az.mk (bwT bw_16 hb); have NB353_355 := nlt BK353 hg; have NB355_353 := ngt BK353 hg; replace BK353 := bkz BK353 hb; have NB354_355 := nlt BK354 hg; have NB355_354 := ngt BK354 hg; replace BK354 := bkz BK354 hb; clear hb hbox hg; have hnb11 := NB353_354.out; have hnc11 := NB354_353.out; have hnb12 := NB353_355.out; have hnc12 := NB355_353.out; obtain ⟨hcz13_0, hcz13_1, hcz13_2, hcz13_3, hfz13_0, hfz13_1, hfz13_2, hfz13_3⟩ := bq4 BK353) | ((with_reducible refine gtC (f := 22) rfl ?_); refine clz Tryd.func22 (some 9) #[.agg #[.int .i64 a0_0, .int .i64 a0_1, .int .i64 a0_2, .int .i64 a0_3]] ?_; (with_reducible refine (spec_IsMatrix.calls k a0_0 a0_1 a0_2 a0_3 true _ A3.out).mono ?_); rintro e w14 ⟨rfl, hb⟩; refine ⟨_, rfl, ?_⟩; replace BK353 := bkz BK353 hb; replace BK354 := bkz BK354 hb; replace BK355 := bkz BK355 hb; replace HB := Az.mk (bwT bw_16 hb); (try clear hb); have hnb15 := NB354_355.out; have hnc15 := NB355_354.out; obtain ⟨hcz16_0, hcz16_1, hfz16_0, hfz16_1⟩ := bq2 BK354) | (go_at_call 43; (with_reducible refine (spec_IsSlope.calls k a1_0 a1_1 true _ A5.out).mono ?_); rintro e w17 ⟨rfl, hb⟩; replace BK353 := bkz BK353 hb; replace BK354 := bkz BK354 hb; replace BK355 := bkz BK355 hb; replace HB := Az.mk (bwT bw_16 hb); (try clear hb); obtain ⟨hcz18_0, hcz18_1, hcz18_2, hcz18_3, hfz18_0, hfz18_1, hfz18_2, hfz18_3⟩ := bq4 BK353; obtain ⟨hcz19_0, hcz19_1, hfz19_0, hfz19_1⟩ := bq2 BK354) | ((with_reducible refine gtC (f := 44) rfl ?_); refine clz Tryd.func44 (some 40) #[.int .i64 (wrap64 ((wrap64 (a0_0 * a1_0)) + (wrap64 (a0_1 * a1_1)))), .int .i64 (wrap64 ((wrap64 (a0_2 * a1_0)) + (wrap64 (a0_3 * a1_1))))] ?_; (with_reducible refine (spec_SlopeOf.calls k (wrap64 ((wrap64 (a0_0 * a1_0)) + (wrap64 (a0_1 * a1_1)))) (wrap64 ((wrap64 (a0_2 * a1_0)) + (wrap64 (a0_3 * a1_1)))) t358 t359 t360 _ A7.out).mono ?_); rintro e w20 ⟨rfl, hb⟩; refine ⟨_, rfl, ?_⟩; replace BK353 := bkz BK353 hb; replace BK354 := bkz BK354 hb; replace BK355 := bkz BK355 hb; replace HB := Az.mk (bwT bw_16 hb); (try clear hb)) | ((with_reducible refine gtD (N := 6) rfl ?_); refine bx (N := 6) (cs := #[.int .i64 0, .int .i64 0]) (t := 35) ?_; intro gb361 hg w21 hbox hb; have BK361 := Az.mk (hbox); have GW361 := gwz hg bw_16; have GE361 := gwz hg bw_16; replace HB := Az.mk (bwT bw_16 hb); have NB353_361 := nlt BK353 hg; have NB361_353 := ngt BK353 hg; replace BK353 := bkz BK353 hb; have NB354_361 := nlt BK354 hg; have NB361_354 := ngt BK354 hg; replace BK354 := bkz BK354 hb; have NB355_361 := nlt BK355 hg; have NB361_355 := ngt BK355 hg; replace BK355 := bkz BK355 hb; clear hb hbox hg; have hnb22 := NB361_353.out; have hnc22 := NB353_361.out; have hnb23 := NB361_354.out; have hnc23 := NB354_361.out; have hnb24 := NB361_355.out; have hnc24 := NB355_361.out; obtain ⟨hcz25_0, hcz25_1, hfz25_0, hfz25_1⟩ := bq2 BK361; obtain ⟨hcz26_0, hcz26_1, hfz26_0, hfz26_1⟩ := bq2 BK355))
 refine bodyPost_ret (results_ct rfl _ _ gb355 35 #[.int .i64 t358, .int .i64 t359] (0, 0) _ rfl bkv Tryd.underlying35 rfl (by kernel_rfl)) rfl ?_
 exact ⟨rq1, bw_16⟩

/-! ### spec_DrawTurnsOf: function 15 -/
def spec_DrawTurnsOf.f (k : Nat) (l0 : List Int) : Option (ByteArray) := (spec_l1New.f k l0).bind fun bt362 => ((spec_l1Once.f bt362.1 bt362.2.1 bt362.2.2 12).bind fun bt366 => (if bt366.1 = true then ((spec_l1Pick.f bt362.1 bt366.2.1 bt366.2.2 (([(⟨#[120]⟩ : ByteArray), (⟨#[82, 76, 82, 76, 82, 76, 82, 76, 82, 76, 82, 76, 82, 76, 82, 76, 82, 76, 82, 76, 82, 76, 82, 76]⟩ : ByteArray), (⟨#[82, 82, 82, 82, 82, 82, 82, 82, 82, 82, 82, 82, 82, 82, 82, 82, 82, 82, 82, 82, 82, 82, 82, 82, 82]⟩ : ByteArray), (⟨#[]⟩ : ByteArray)] : List ByteArray))).bind fun bt372 => (some bt372.1)) else ((spec_l13Word.f k bt362.1 bt366.2.1 bt366.2.2 10).bind fun bt375 => (some bt375.1))))
theorem spec_DrawTurnsOf.mono : ∀ a0 k, LeO (spec_DrawTurnsOf.f k a0) (spec_DrawTurnsOf.f (k + 1) a0) := by
 intro a0 k
 unfold spec_DrawTurnsOf.f
 exact mo_
instance spec_DrawTurnsOf.mi {a0 k} : MoO (spec_DrawTurnsOf.f k a0) (spec_DrawTurnsOf.f (k + 1) a0) := ⟨spec_DrawTurnsOf.mono _ _⟩
set_option maxHeartbeats 8000000 in
set_option maxRecDepth 100000 in
theorem spec_DrawTurnsOf.calls (k : Nat) (A0 : Option Addr) (c0 : Nat) (l0 : List Int) (r : ByteArray) (w : World) (hr0 : Kd.C (Kd.int .u8) w A0 l0.length l0) (hc0 : l0.length ≤ c0) (h : spec_DrawTurnsOf.f k l0 = some r) :
  Calls Tryd.prog 15 #[.slice A0 l0.length c0] w fun e w' => e = .returned (.string r) ∧ Below w.heap.size w w' := by
 have HR0 := Az.mk hr0
 have HC0 := Az.mk hc0
 clear hr0 hc0
 have HB := Az.mk (Below.refl w.heap.size w)
 have H : ((spec_l1New.f k l0).bind fun bt362 => ((spec_l1Once.f bt362.1 bt362.2.1 bt362.2.2 12).bind fun bt366 => (if bt366.1 = true then ((spec_l1Pick.f bt362.1 bt366.2.1 bt366.2.2 (([(⟨#[120]⟩ : ByteArray), (⟨#[82, 76, 82, 76, 82, 76, 82, 76, 82, 76, 82, 76, 82, 76, 82, 76, 82, 76, 82, 76, 82, 76, 82, 76]⟩ : ByteArray), (⟨#[82, 82, 82, 82, 82, 82, 82, 82, 82, 82, 82, 82, 82, 82, 82, 82, 82, 82, 82, 82, 82, 82, 82, 82, 82]⟩ : ByteArray), (⟨#[]⟩ : ByteArray)] : List ByteArray))).bind fun bt372 => (some bt372.1)) else ((spec_l13Word.f k bt362.1 bt366.2.1 bt366.2.2 10).bind fun bt375 => (some bt375.1))))) = some r := h
 clear h
 replace H := bez H
 obtain ⟨⟨t362, t363, t364⟩, A2, H⟩ := H
 try dsimp only at H
 replace H := bez H
 obtain ⟨⟨t366, t367, t368⟩, A3, H⟩ := H
 try dsimp only at H
 by_cases c4 : t366 = true
 rotate_left
 ·replace c4 := Bool.eq_false_iff.mpr c4
  subst c4
  rw [if_neg (show ¬ (false = true) by decide)] at H
  replace H := bez H
  obtain ⟨⟨t375, t376, t377⟩, A12, H⟩ := H
  replace H : (some t375) = some r := H
  obtain rfl := Option.some.inj H
  go_enter Tryd.func15, Tryd.ntmps15
  go_wp2_with (first | ((with_reducible refine gtC (f := 37) rfl ?_); refine clz Tryd.func37 (some 5) #[.slice A0 l0.length c0] ?_; (with_reducible refine (spec_l1New.calls k _ _ l0 t362 t363 t364 w _ ?side1 ?side2 ?side3 A2.out).mono ?_); (case side1 => exact bw_16); (case side2 => exact HR0.out); (case side3 => exact HC0.out); rintro e w13 ⟨g365, rfl, hi, hb, hb2⟩; refine ⟨_, rfl, ?_⟩; replace HB := Az.mk (hb); have HI365 := Az.mk (hi); (try clear hb); (try clear hb2); (try clear hi)) | ((with_reducible refine gtC (f := 45) rfl ?_); refine clz Tryd.func45 (some 7) #[.pointer (some ⟨g365, 0, none⟩), .int .i64 12] ?_; (with_reducible refine (spec_l1Once.calls g365 t362 t363 t364 12 false t367 t368 w _ ?side1 ?side2 A3.out).mono ?_); (case side1 => exact z16_0); (case side2 => repeat (first | (with_reducible first | exact HB.out | apply bwA | apply pbN | apply bwD | refine bwS ?_ (IsS71.ge HI365.out)) | exact HB.out)); rintro e w14 ⟨rfl, hi, hb, hk⟩; refine ⟨_, rfl, ?_⟩; replace HB := Az.mk (hb); replace HI365 := Az.mk (hi); (try clear hb); (try clear hk); (try clear hi)) | ((with_reducible refine gtC (f := 47) rfl ?_); refine clz Tryd.func47 (some 12) #[.pointer (some ⟨g365, 0, none⟩), .int .i64 10] ?_; (with_reducible refine (spec_l13Word.calls k g365 t362 t367 t368 10 t375 t376 t377 w _ ?side1 ?side2 A12.out).mono ?_); (case side1 => exact z16_0); (case side2 => repeat (first | (with_reducible first | exact HB.out | apply bwA | apply pbN | apply bwD | refine bwS ?_ (IsS71.ge HI365.out)) | exact HB.out)); rintro e w15 ⟨rfl, hi, hb, hk⟩; refine ⟨_, rfl, ?_⟩; replace HB := Az.mk (hb); replace HI365 := Az.mk (hi); (try clear hb); (try clear hk); (try clear hi)))
  go_ret
  exact ⟨rq1, by repeat (first | (with_reducible first | exact HB.out | apply bwA | apply pbN | apply bwD | refine bwS ?_ (IsS71.ge HI365.out)) | exact HB.out)⟩
 subst c4
 rw [if_pos rfl] at H
 obtain ⟨y369, hy369⟩ : ∃ y_ : List ByteArray, y_ = (([(⟨#[120]⟩ : ByteArray), (⟨#[82, 76, 82, 76, 82, 76, 82, 76, 82, 76, 82, 76, 82, 76, 82, 76, 82, 76, 82, 76, 82, 76, 82, 76]⟩ : ByteArray), (⟨#[82, 82, 82, 82, 82, 82, 82, 82, 82, 82, 82, 82, 82, 82, 82, 82, 82, 82, 82, 82, 82, 82, 82, 82, 82]⟩ : ByteArray), (⟨#[]⟩ : ByteArray)] : List ByteArray)) := ⟨_, rfl⟩
 replace H : ((spec_l1Pick.f t362 t367 t368 y369).bind fun bt372 => (some bt372.1)) = some r := by first | (rw [hy369]; with_reducible exact H) | (have H2_ := (Option.bind_some _ _).symm.trans H; rw [hy369]; with_reducible exact H2_) | (have H2_ := (Option.bind_some _ _).symm.trans H; with_reducible exact H2_) | with_reducible exact H | (rw [hy369]; exact H) | exact H
 have Ny369 := Az.mk hy369
 clear hy369
 replace H := bez H
 obtain ⟨⟨t372, t373, t374⟩, A5, H⟩ := H
 replace H : (some t372) = some r := H
 obtain rfl := Option.some.inj H
 go_enter Tryd.func15, Tryd.ntmps15
 go_wp2_with (first | ((with_reducible refine gtC (f := 37) rfl ?_); refine clz Tryd.func37 (some 5) #[.slice A0 l0.length c0] ?_; (with_reducible refine (spec_l1New.calls k _ _ l0 t362 t363 t364 w _ ?side1 ?side2 ?side3 A2.out).mono ?_); (case side1 => exact bw_16); (case side2 => exact HR0.out); (case side3 => exact HC0.out); rintro e w6 ⟨g365, rfl, hi, hb, hb2⟩; refine ⟨_, rfl, ?_⟩; replace HB := Az.mk (hb); have HI365 := Az.mk (hi); (try clear hb); (try clear hb2); (try clear hi)) | ((with_reducible refine gtC (f := 45) rfl ?_); refine clz Tryd.func45 (some 7) #[.pointer (some ⟨g365, 0, none⟩), .int .i64 12] ?_; (with_reducible refine (spec_l1Once.calls g365 t362 t363 t364 12 true t367 t368 w _ ?side1 ?side2 A3.out).mono ?_); (case side1 => exact z16_0); (case side2 => repeat (first | (with_reducible first | exact HB.out | apply bwA | apply pbN | apply bwD | refine bwS ?_ (IsS71.ge HI365.out)) | exact HB.out)); rintro e w7 ⟨rfl, hi, hb, hk⟩; refine ⟨_, rfl, ?_⟩; replace HB := Az.mk (hb); replace HI365 := Az.mk (hi); (try clear hb); (try clear hk); (try clear hi)) | ((with_reducible refine gtD (N := 9) rfl ?_); refine Kd.R_lit Kd.string _ 9 ?hg (N := 9) ?hd (xs := ([(⟨#[120]⟩ : ByteArray), (⟨#[82, 76, 82, 76, 82, 76, 82, 76, 82, 76, 82, 76, 82, 76, 82, 76, 82, 76, 82, 76, 82, 76, 82, 76]⟩ : ByteArray), (⟨#[82, 82, 82, 82, 82, 82, 82, 82, 82, 82, 82, 82, 82, 82, 82, 82, 82, 82, 82, 82, 82, 82, 82, 82, 82]⟩ : ByteArray), (⟨#[]⟩ : ByteArray)] : List ByteArray)) (inner := [.string (⟨#[120]⟩ : ByteArray), .string (⟨#[82, 76, 82, 76, 82, 76, 82, 76, 82, 76, 82, 76, 82, 76, 82, 76, 82, 76, 82, 76, 82, 76, 82, 76]⟩ : ByteArray), .string (⟨#[82, 82, 82, 82, 82, 82, 82, 82, 82, 82, 82, 82, 82, 82, 82, 82, 82, 82, 82, 82, 82, 82, 82, 82, 82]⟩ : ByteArray), .string (⟨#[]⟩ : ByteArray)]) (ok := fun _ => True) (okp := fun _ => True) ?hr ?hp (fun _ hk => hk) trivial (Below.refl _ _) (Nat.le_refl _) (by simp) ?_; (case hd => rfl); (case hg => rfl); (case hr => first | (go_simp; done) | (go_simp; rfl)); (case hp => exact (Reps.one (show Kd.M Kd.string _ _ _ (⟨#[120]⟩ : ByteArray) [.string (⟨#[120]⟩ : ByteArray)] from rfl) (Reps.one (show Kd.M Kd.string _ _ _ (⟨#[82, 76, 82, 76, 82, 76, 82, 76, 82, 76, 82, 76, 82, 76, 82, 76, 82, 76, 82, 76, 82, 76, 82, 76]⟩ : ByteArray) [.string (⟨#[82, 76, 82, 76, 82, 76, 82, 76, 82, 76, 82, 76, 82, 76, 82, 76, 82, 76, 82, 76, 82, 76, 82, 76]⟩ : ByteArray)] from rfl) (Reps.one (show Kd.M Kd.string _ _ _ (⟨#[82, 82, 82, 82, 82, 82, 82, 82, 82, 82, 82, 82, 82, 82, 82, 82, 82, 82, 82, 82, 82, 82, 82, 82, 82]⟩ : ByteArray) [.string (⟨#[82, 82, 82, 82, 82, 82, 82, 82, 82, 82, 82, 82, 82, 82, 82, 82, 82, 82, 82, 82, 82, 82, 82, 82, 82]⟩ : ByteArray)] from rfl) (Reps.one (show Kd.M Kd.string _ _ _ (⟨#[]⟩ : ByteArray) [.string (⟨#[]⟩ : ByteArray)] from rfl) (Reps.none _ _)))))); intro v370 w8 ho9 hb hg_ hnew_; clear hg_ hnew_; (first | rw [← Ny369.out] at ho9 | (simp only [Int.reduceToNat] at ho9; rw [← Ny369.out] at ho9)); have HO371 := Az.mk (Kd.R_lower ho9 (bwZ (by repeat (first | (with_reducible first | exact HB.out | apply bwA | apply pbN | apply bwD | refine bwS ?_ (IsS71.ge HI365.out)) | exact HB.out)))); replace HB := Az.mk (bwT (by repeat (first | (with_reducible first | exact HB.out | apply bwA | apply pbN | apply bwD | refine bwS ?_ (IsS71.ge HI365.out)) | exact HB.out)) hb); replace HI365 := Az.mk (IsS71.below z16_0 hb); clear hb ho9; obtain ⟨Ao10, co10, eo10⟩ := Kd.R_slice HO371.out; subst eo10) | ((with_reducible refine gtC (f := 46) rfl ?_); refine clz Tryd.func46 (some 10) #[.pointer (some ⟨g365, 0, none⟩), .slice Ao10 y369.length co10] ?_; (with_reducible refine (spec_l1Pick.calls g365 t362 t367 t368 _ _ y369 t372 t373 t374 w _ ?side1 ?side2 ?side3 ?side4 ?side5 A5.out).mono ?_); (case side1 => exact z16_0); (case side2 => repeat (first | (with_reducible first | exact HB.out | apply bwA | apply pbN | apply bwD | refine bwS ?_ (IsS71.ge HI365.out)) | exact HB.out)); (case side3 => repeat (first | exact (Kd.R_reads' HO371.out).2.2 | (with_reducible refine Kd.C_alloc ?_ _) | (with_reducible refine Kd.C_drewN ?_ _) | (with_reducible refine Kd.C_drew ?_))); (case side4 => exact (Kd.R_reads' HO371.out).2.1); (case side5 => exact far_slice (IsS71.own_ne HI365.out HO371.out (by decide))); rintro e w11 ⟨rfl, hi, hb, hk⟩; refine ⟨_, rfl, ?_⟩; replace HO371 := Az.mk (Kd.R_mono (Kd.R_keep (IsS71.apart (show IsS71 w _ g365 t362 t367 t368 from by repeat (first | (with_reducible first | exact HI365.out | apply IsS71.alloc | apply IsS71.drewN | apply IsS71.drew | apply IsS71.set_1 | apply IsS71.set_2) | exact HI365.out)) (by (with_reducible repeat (first | apply Kd.R_alloc | apply Kd.R_drewN | apply Kd.R_drew)); exact HO371.out) (by decide)) hk (fun _ h => h.2)) (fun _ h => h.1)); replace HB := Az.mk (hb); replace HI365 := Az.mk (hi); (try clear hb); (try clear hk); (try clear hi)))
 go_ret
 exact ⟨rq1, by repeat (first | (with_reducible first | exact HB.out | apply bwA | apply pbN | apply bwD | refine bwS ?_ (IsS71.ge HI365.out)) | exact HB.out)⟩

/-! ### impl_one: function 48 -/
def impl_one.f  : Option (Int × Int × Int × Int) := some (1, 0, 0, 1)
set_option maxHeartbeats 8000000 in
set_option maxRecDepth 100000 in
theorem impl_one.calls  (r1 : Int) (r2 : Int) (r3 : Int) (r4 : Int) (w : World) (h : impl_one.f  = some (r1, r2, r3, r4)) :
  Calls Tryd.prog 48 #[] w fun e w' => e = .returned (.agg #[.int .i64 r1, .int .i64 r2, .int .i64 r3, .int .i64 r4]) ∧ Below w.heap.size w w' := by
 have hu25 := Tryd.underlying25
 have HB := Az.mk (Below.refl w.heap.size w)
 have H : (some (1, 0, 0, 1)) = some (r1, r2, r3, r4) := h
 clear h
 simp only [Option.some.injEq, Prod.mk.injEq] at H
 obtain ⟨rfl, rfl, rfl, rfl⟩ := H
 go_enter Tryd.func48, Tryd.ntmps48
 go_wp2_with (first | ((with_reducible refine gtD (N := 0) rfl ?_); refine bx (N := 0) (cs := #[.int .i64 0, .int .i64 0, .int .i64 0, .int .i64 0]) (t := 25) ?_; intro gb378 hg w1 hbox hb; have BK378 := Az.mk (hbox); have GW378 := gwz hg bw_16; have GE378 := gwz hg bw_16; replace HB := Az.mk (bwT bw_16 hb); clear hb hbox hg; obtain ⟨hcz2_0, hcz2_1, hcz2_2, hcz2_3, hfz2_0, hfz2_1, hfz2_2, hfz2_3⟩ := bq4 BK378))
 refine bodyPost_ret (results_cell_row rfl _ _ gb378 25 #[.int .i64 1, .int .i64 0, .int .i64 0, .int .i64 1] (0, 0) _ rfl bkv Tryd.underlying25 rfl (by kernel_rfl)) rfl ?_
 exact ⟨rq1, bw_16⟩

/-! ### impl_turnOf: function 49 -/
def impl_turnOf.f (a0 : Int) : Option (Int × Int × Int × Int × Bool) := if a0 = 82 then (some (1, 1, 0, 1, true)) else (if a0 = 76 then (some (1, 0, 1, 1, true)) else (if a0 = 114 then (some (1, (-1), 0, 1, true)) else (if a0 = 108 then (some (1, 0, (-1), 1, true)) else (some (0, 0, 0, 0, false)))))
set_option maxHeartbeats 8000000 in
set_option maxRecDepth 100000 in
theorem impl_turnOf.calls (a0 : Int) (r1 : Int) (r2 : Int) (r3 : Int) (r4 : Int) (r5 : Bool) (w : World) (h : impl_turnOf.f a0 = some (r1, r2, r3, r4, r5)) :
  Calls Tryd.prog 49 #[.int .u8 a0] w fun e w' => e = .returned (.tuple #[.agg #[.int .i64 r1, .int .i64 r2, .int .i64 r3, .int .i64 r4], .bool r5]) ∧ Below w.heap.size w w' := by
 have hu25 := Tryd.underlying25
 have HB := Az.mk (Below.refl w.heap.size w)
 have H : (if a0 = 82 then (some (1, 1, 0, 1, true)) else (if a0 = 76 then (some (1, 0, 1, 1, true)) else (if a0 = 114 then (some (1, (-1), 0, 1, true)) else (if a0 = 108 then (some (1, 0, (-1), 1, true)) else (some (0, 0, 0, 0, false)))))) = some (r1, r2, r3, r4, r5) := h
 clear h
 by_cases c2 : a0 = 82
 ·rw [if_pos c2] at H
  have c2b0 : (a0 == 82) = true := beq_iff_eq.mpr c2
  have c2b1 : (a0 != 82) = false := bne_eq_false_iff_eq.mpr c2
  clear c2
  simp only [Option.some.injEq, Prod.mk.injEq] at H
  obtain ⟨rfl, rfl, rfl, rfl, rfl⟩ := H
  go_enter Tryd.func49, Tryd.ntmps49
  go_wp2_with (first | ((with_reducible refine gtD (N := 2) rfl ?_); refine bx (N := 2) (cs := #[.int .i64 0, .int .i64 0, .int .i64 0, .int .i64 0]) (t := 25) ?_; intro gb379 hg w3 hbox hb; have BK379 := Az.mk (hbox); have GW379 := gwz hg bw_16; have GE379 := gwz hg bw_16; replace HB := Az.mk (bwT bw_16 hb); clear hb hbox hg; obtain ⟨hcz4_0, hcz4_1, hcz4_2, hcz4_3, hfz4_0, hfz4_1, hfz4_2, hfz4_3⟩ := bq4 BK379))
  refine bodyPost_ret (results_ct rfl _ _ gb379 25 #[.int .i64 1, .int .i64 1, .int .i64 0, .int .i64 1] (0, 0) _ rfl bkv Tryd.underlying25 rfl (by kernel_rfl)) rfl ?_
  exact ⟨rq1, bw_16⟩
 rw [if_neg c2] at H
 have c2b0 : (a0 == 82) = false := beq_eq_false_iff_ne.mpr c2
 have c2b1 : (a0 != 82) = true := bne_iff_ne.mpr c2
 by_cases c5 : a0 = 76
 ·rw [if_pos c5] at H
  have c5b0 : (a0 == 76) = true := beq_iff_eq.mpr c5
  have c5b1 : (a0 != 76) = false := bne_eq_false_iff_eq.mpr c5
  clear c5
  simp only [Option.some.injEq, Prod.mk.injEq] at H
  obtain ⟨rfl, rfl, rfl, rfl, rfl⟩ := H
  go_enter Tryd.func49, Tryd.ntmps49
  go_wp2_with (first | ((with_reducible refine gtD (N := 2) rfl ?_); refine bx (N := 2) (cs := #[.int .i64 0, .int .i64 0, .int .i64 0, .int .i64 0]) (t := 25) ?_; intro gb379 hg w6 hbox hb; have BK379 := Az.mk (hbox); have GW379 := gwz hg bw_16; have GE379 := gwz hg bw_16; replace HB := Az.mk (bwT bw_16 hb); clear hb hbox hg; obtain ⟨hcz7_0, hcz7_1, hcz7_2, hcz7_3, hfz7_0, hfz7_1, hfz7_2, hfz7_3⟩ := bq4 BK379))
  refine bodyPost_ret (results_ct rfl _ _ gb379 25 #[.int .i64 1, .int .i64 0, .int .i64 1, .int .i64 1] (0, 0) _ rfl bkv Tryd.underlying25 rfl (by kernel_rfl)) rfl ?_
  exact ⟨rq1, bw_16⟩
 rw [if_neg c5] at H
 have c5b0 : (a0 == 76) = false := beq_eq_false_iff_ne.mpr c5
 have c5b1 : (a0 != 76) = true := bne_iff_ne.mpr c5
 by_cases c8 : a0 = 114
 ·rw [if_pos c8] at H
  have c8b0 : (a0 == 114) = true := beq_iff_eq.mpr c8
  have c8b1 : (a0 != 114) = false := bne_eq_false_iff_eq.mpr c8
  clear c8
  simp only [Option.some.injEq, Prod.mk.injEq] at H
  obtain ⟨rfl, rfl, rfl, rfl, rfl⟩ := H
  go_enter Tryd.func49, Tryd.ntmps49
  go_wp2_with (first | ((with_reducible refine gtD (N := 2) rfl ?_); refine bx (N := 2) (cs := #[.int .i64 0, .int .i64 0, .int .i64 0, .int .i64 0]) (t := 25) ?_; intro gb379 hg w9 hbox hb; have BK379 := Az.mk (hbox); have GW379 := gwz hg bw_16; have GE379 := gwz hg bw_16; replace HB := Az.mk (bwT bw_16 hb); clear hb hbox hg; obtain ⟨hcz10_0, hcz10_1, hcz10_2, hcz10_3, hfz10_0, hfz10_1, hfz10_2, hfz10_3⟩ := bq4 BK379))
  refine bodyPost_ret (results_ct rfl _ _ gb379 25 #[.int .i64 1, .int .i64 (-1), .int .i64 0, .int .i64 1] (0, 0) _ rfl bkv Tryd.underlying25 rfl (by kernel_rfl)) rfl ?_
  exact ⟨rq1, bw_16⟩
 rw [if_neg c8] at H
 have c8b0 : (a0 == 114) = false := beq_eq_false_iff_ne.mpr c8
 have c8b1 : (a0 != 114) = true := bne_iff_ne.mpr c8
 by_cases c11 : a0 = 108
 rotate_left
 ·rw [if_neg c11] at H
  have c11b0 : (a0 == 108) = false := beq_eq_false_iff_ne.mpr c11
  have c11b1 : (a0 != 108) = true := bne_iff_ne.mpr c11
  simp only [Option.some.injEq, Prod.mk.injEq] at H
  obtain ⟨rfl, rfl, rfl, rfl, rfl⟩ := H
  go_enter Tryd.func49, Tryd.ntmps49
  go_wp2_with (first | ((with_reducible refine gtD (N := 2) rfl ?_); refine bx (N := 2) (cs := #[.int .i64 0, .int .i64 0, .int .i64 0, .int .i64 0]) (t := 25) ?_; intro gb379 hg w14 hbox hb; have BK379 := Az.mk (hbox); have GW379 := gwz hg bw_16; have GE379 := gwz hg bw_16; replace HB := Az.mk (bwT bw_16 hb); clear hb hbox hg; obtain ⟨hcz15_0, hcz15_1, hcz15_2, hcz15_3, hfz15_0, hfz15_1, hfz15_2, hfz15_3⟩ := bq4 BK379))
  refine bodyPost_ret (results_ct rfl _ _ gb379 25 #[.int .i64 0, .int .i64 0, .int .i64 0, .int .i64 0] (0, 0) _ rfl bkv Tryd.underlying25 rfl (by kernel_rfl)) rfl ?_
  exact ⟨rq1, bw_16⟩
 rw [if_pos c11] at H
 have c11b0 : (a0 == 108) = true := beq_iff_eq.mpr c11
 have c11b1 : (a0 != 108) = false := bne_eq_false_iff_eq.mpr c11
 clear c11
 simp only [Option.some.injEq, Prod.mk.injEq] at H
 obtain ⟨rfl, rfl, rfl, rfl, rfl⟩ := H
 go_enter Tryd.func49, Tryd.ntmps49
 go_wp2_with (first | ((with_reducible refine gtD (N := 2) rfl ?_); refine bx (N := 2) (cs := #[.int .i64 0, .int .i64 0, .int .i64 0, .int .i64 0]) (t := 25) ?_; intro gb379 hg w12 hbox hb; have BK379 := Az.mk (hbox); have GW379 := gwz hg bw_16; have GE379 := gwz hg bw_16; replace HB := Az.mk (bwT bw_16 hb); clear hb hbox hg; obtain ⟨hcz13_0, hcz13_1, hcz13_2, hcz13_3, hfz13_0, hfz13_1, hfz13_2, hfz13_3⟩ := bq4 BK379))
 refine bodyPost_ret (results_ct rfl _ _ gb379 25 #[.int .i64 1, .int .i64 0, .int .i64 (-1), .int .i64 1] (0, 0) _ rfl bkv Tryd.underlying25 rfl (by kernel_rfl)) rfl ?_
 exact ⟨rq1, bw_16⟩

/-! ### impl_TurnsOf: function 16 -/
def impl_TurnsOf.l0 : Nat → ByteArray → Int → Int → Int → Int → Int → Int → Option (Int × Int × Int × Int × Bool)
 | 0, _, _, _, _, _, _, _ => none
 | k + 1, x0, x14, x15, x386000, x386001, x386002, x386003 => if x15 < x14 then (if 0 ≤ x15 then (if x15 < (x0.size : Int) then ((impl_turnOf.f (bt x0 x15)).bind fun bt386 => (if bt386.2.2.2.2 = true then ((impl_TimesMatrix.f k x386000 x386001 x386002 x386003 bt386.1 bt386.2.1 bt386.2.2.1 bt386.2.2.2.1).bind fun bt392 => (if bt392.2.2.2.2 = true then (impl_TurnsOf.l0 k x0 x14 (wrap64 (x15 + 1)) bt392.1 bt392.2.1 bt392.2.2.1 bt392.2.2.2.1) else (some (0, 0, 0, 0, false)))) else (some (0, 0, 0, 0, false)))) else (none)) else (none)) else (some (x386000, x386001, x386002, x386003, true))
def impl_TurnsOf.f (k : Nat) (a0 : ByteArray) : Option (Int × Int × Int × Int × Bool) := if (a0.size : Int) > 24 then (some (0, 0, 0, 0, false)) else ((impl_one.f).bind fun bt381 => (impl_TurnsOf.l0 k a0 (a0.size : Int) 0 bt381.1 bt381.2.1 bt381.2.2.1 bt381.2.2.2))
theorem impl_TurnsOf.mono_l : ∀ k, (∀ y0 y1 y2 y3 y4 y5 y6, LeO (impl_TurnsOf.l0 k y0 y1 y2 y3 y4 y5 y6) (impl_TurnsOf.l0 (k + 1) y0 y1 y2 y3 y4 y5 y6))
 | 0 => fun _ _ _ _ _ _ _ r h => by simp [impl_TurnsOf.l0] at h
 | k + 1 => by
  have ih0 := impl_TurnsOf.mono_l k
  have i0 := fun z0 z1 z2 z3 z4 z5 z6 => MoO.mk (ih0 z0 z1 z2 z3 z4 z5 z6)
  ·intro y0 y1 y2 y3 y4 y5 y6
   unfold impl_TurnsOf.l0
   exact mo_
theorem impl_TurnsOf.mono : ∀ a0 k, LeO (impl_TurnsOf.f k a0) (impl_TurnsOf.f (k + 1) a0) := by
 intro a0 k
 have ih0 := impl_TurnsOf.mono_l k
 have i0 := fun z0 z1 z2 z3 z4 z5 z6 => MoO.mk (ih0 z0 z1 z2 z3 z4 z5 z6)
 unfold impl_TurnsOf.f
 exact mo_
instance impl_TurnsOf.mi {a0 k} : MoO (impl_TurnsOf.f k a0) (impl_TurnsOf.f (k + 1) a0) := ⟨impl_TurnsOf.mono _ _⟩
set_option maxHeartbeats 8000000 in
set_option maxRecDepth 100000 in
theorem impl_TurnsOf.calls (k : Nat) (a0 : ByteArray) (r1 : Int) (r2 : Int) (r3 : Int) (r4 : Int) (r5 : Bool) (w : World) (h : impl_TurnsOf.f k a0 = some (r1, r2, r3, r4, r5)) :
  Calls Tryd.prog 16 #[.string a0] w fun e w' => e = .returned (.tuple #[.agg #[.int .i64 r1, .int .i64 r2, .int .i64 r3, .int .i64 r4], .bool r5]) ∧ Below w.heap.size w w' := by
 have hu25 := Tryd.underlying25
 have HB := Az.mk (Below.refl w.heap.size w)
 have H : (if (a0.size : Int) > 24 then (some (0, 0, 0, 0, false)) else ((impl_one.f).bind fun bt381 => (impl_TurnsOf.l0 k a0 (a0.size : Int) 0 bt381.1 bt381.2.1 bt381.2.2.1 bt381.2.2.2))) = some (r1, r2, r3, r4, r5) := h
 clear h
 by_cases c2 : (a0.size : Int) > 24
 ·rw [if_pos c2] at H
  have c2b0 : decide (24 < (a0.size : Int)) = true := decide_eq_true c2
  have c2b1 : decide (24 < a0.size) = true := decide_eq_true (by omega)
  clear c2
  simp only [Option.some.injEq, Prod.mk.injEq] at H
  obtain ⟨rfl, rfl, rfl, rfl, rfl⟩ := H
  go_enter Tryd.func16, Tryd.ntmps16
  go_wp2_with (first | ((with_reducible refine gtD (N := 2) rfl ?_); refine bx (N := 2) (cs := #[.int .i64 0, .int .i64 0, .int .i64 0, .int .i64 0]) (t := 25) ?_; intro gb380 hg w3 hbox hb; have BK380 := Az.mk (hbox); have GW380 := gwz hg bw_16; have GE380 := gwz hg bw_16; replace HB := Az.mk (bwT bw_16 hb); clear hb hbox hg; obtain ⟨hcz4_0, hcz4_1, hcz4_2, hcz4_3, hfz4_0, hfz4_1, hfz4_2, hfz4_3⟩ := bq4 BK380))
  refine bodyPost_ret (results_ct rfl _ _ gb380 25 #[.int .i64 0, .int .i64 0, .int .i64 0, .int .i64 0] (0, 0) _ rfl bkv Tryd.underlying25 rfl (by kernel_rfl)) rfl ?_
  exact ⟨rq1, bw_16⟩
 rw [if_neg c2] at H
 have c2b0 : decide (24 < (a0.size : Int)) = false := decide_eq_false c2
 have c2b1 : decide (24 < a0.size) = false := decide_eq_false (by omega)
 clear c2
 replace H := bez H
 obtain ⟨⟨t381, t382, t383, t384⟩, A5, H⟩ := H
 try dsimp only at H
 have H' := Az.mk H
 clear H
 go_enter Tryd.func16, Tryd.ntmps16
 go_wp2_with (first | ((with_reducible refine gtD (N := 2) rfl ?_); refine bx (N := 2) (cs := #[.int .i64 0, .int .i64 0, .int .i64 0, .int .i64 0]) (t := 25) ?_; intro gb380 hg w6 hbox hb; have BK380 := Az.mk (hbox); have GW380 := gwz hg bw_16; have GE380 := gwz hg bw_16; replace HB := Az.mk (bwT bw_16 hb); clear hb hbox hg) | ((with_reducible refine gtC (f := 48) rfl ?_); refine clz Tryd.func48 (some 12) #[] ?_; (with_reducible refine (impl_one.calls  t381 t382 t383 t384 _ A5.out).mono ?_); rintro e w7 ⟨rfl, hb⟩; refine ⟨_, rfl, ?_⟩; replace BK380 := bkz BK380 hb; replace HB := Az.mk (bwT bw_16 hb); (try clear hb)) | ((with_reducible refine gtD (N := 4) rfl ?_); refine bx (N := 4) (cs := #[.int .i64 0, .int .i64 0, .int .i64 0, .int .i64 0]) (t := 25) ?_; intro gb385 hg w8 hbox hb; have BK385 := Az.mk (hbox); have GW385 := gwz hg bw_16; have GE385 := gwz hg bw_16; replace HB := Az.mk (bwT bw_16 hb); have NB380_385 := nlt BK380 hg; have NB385_380 := ngt BK380 hg; replace BK380 := bkz BK380 hb; clear hb hbox hg; have hnb9 := NB385_380.out; have hnc9 := NB380_385.out; obtain ⟨hcz10_0, hcz10_1, hcz10_2, hcz10_3, hfz10_0, hfz10_1, hfz10_2, hfz10_3⟩ := bq4 BK385))
 go_loopg [15] k (fun kq v15 w' => ∃ (x15_1 : Int) (x381000_1 : Int) (x381001_1 : Int) (x381002_1 : Int) (x381003_1 : Int) (x386000_1 : Int) (x386001_1 : Int) (x386002_1 : Int) (x386003_1 : Int), v15 = .int .i64 x15_1 ∧ Az (impl_TurnsOf.l0 kq a0 (a0.size : Int) x15_1 x386000_1 x386001_1 x386002_1 x386003_1 = some (r1, r2, r3, r4, r5)) ∧ Az (kq ≤ k) ∧ Az (w'.heap[gb380]? = some (.cells #[.int .i64 x381000_1, .int .i64 x381001_1, .int .i64 x381002_1, .int .i64 x381003_1] 25 (0, 0))) ∧ Az (w'.heap[gb385]? = some (.cells #[.int .i64 x386000_1, .int .i64 x386001_1, .int .i64 x386002_1, .int .i64 x386003_1] 25 (0, 0))) ∧ Az (Below w.heap.size w w'))
 case atStart => exact ⟨(0), (0), (0), (0), (0), (t381), (t382), (t383), (t384), rq2, H', ⟨Nat.le_refl _⟩, ⟨bkv⟩, ⟨bkv⟩, ⟨bw_16⟩⟩
 clear H'
 try clear c2
 try clear c2b0
 try clear c2b1
 try clear hcz10_0
 try clear hcz10_1
 try clear hcz10_2
 try clear hcz10_3
 try clear hcz4_0
 try clear hcz4_1
 try clear hcz4_2
 try clear hcz4_3
 try clear hfz10_0
 try clear hfz10_1
 try clear hfz10_2
 try clear hfz10_3
 try clear hfz4_0
 try clear hfz4_1
 try clear hfz4_2
 try clear hfz4_3
 obtain ⟨x15_1, x381000_1, x381001_1, x381002_1, x381003_1, x386000_1, x386001_1, x386002_1, x386003_1, rfl, HA, HK1, BK380, BK385, HB⟩ := hrel
 cases gk with
 | zero => exact absurd HA.out (by simp [impl_TurnsOf.l0])
 | succ k1 =>
  have H := HA.out
  clear HA
  simp only [impl_TurnsOf.l0] at H
  by_cases c11 : x15_1 < (a0.size : Int)
  rotate_left
  ·rw [if_neg c11] at H
   have c11b0 : decide (x15_1 < (a0.size : Int)) = false := decide_eq_false c11
   clear c11
   simp only [Option.some.injEq, Prod.mk.injEq] at H
   obtain ⟨rfl, rfl, rfl, rfl, rfl⟩ := H
   have hnb45 := NB385_380.out
   have hnc45 := NB380_385.out
   have hcz46_0 := bkc0 BK385
   have hcz46_1 := bkc1 BK385
   have hcz46_2 := bkc2 BK385
   have hcz46_3 := bkc3 BK385
   have hfz46_0 := bkF BK385.out 0
   have hfz46_1 := bkF BK385.out 1
   have hfz46_2 := bkF BK385.out 2
   have hfz46_3 := bkF BK385.out 3
   have hcz47_0 := bkc0 BK380
   have hcz47_1 := bkc1 BK380
   have hcz47_2 := bkc2 BK380
   have hcz47_3 := bkc3 BK380
   have hfz47_0 := bkF BK380.out 0
   have hfz47_1 := bkF BK380.out 1
   have hfz47_2 := bkF BK380.out 2
   have hfz47_3 := bkF BK380.out 3
   go_wp2
   refine bodyPost_ret (results_ct rfl _ _ gb380 25 #[.int .i64 x386000_1, .int .i64 x386001_1, .int .i64 x386002_1, .int .i64 x386003_1] (0, 0) _ rfl bkv Tryd.underlying25 rfl (by kernel_rfl)) rfl ?_
   exact ⟨rq1, bw_16⟩
  rw [if_pos c11] at H
  have c11b0 : decide (x15_1 < (a0.size : Int)) = true := decide_eq_true c11
  clear c11
  by_cases c12 : 0 ≤ x15_1
  rotate_left
  ·rw [if_neg c12] at H
   exact absurd H (by simp)
  rw [if_pos c12] at H
  have c12b0 : decide (0 ≤ x15_1) = true := decide_eq_true c12
  clear c12
  by_cases c13 : x15_1 < (a0.size : Int)
  rotate_left
  ·rw [if_neg c13] at H
   exact absurd H (by simp)
  rw [if_pos c13] at H
  have c13b0 : decide (x15_1 < (a0.size : Int)) = true := decide_eq_true c13
  clear c13
  replace H := bez H
  obtain ⟨⟨t386, t387, t388, t389, t390⟩, A15, H⟩ := H
  try dsimp only at H
  by_cases c16 : t390 = true
  rotate_left
  ·replace c16 := Bool.eq_false_iff.mpr c16
   subst c16
   rw [if_neg (show ¬ (false = true) by decide)] at H
   simp only [Option.some.injEq, Prod.mk.injEq] at H
   obtain ⟨rfl, rfl, rfl, rfl, rfl⟩ := H
   have p14 : 0 ≤ (x15_1 : Int) := of_decide_eq_true (by first | (with_reducible assumption) | assumption)
   have q14 : x15_1 < (a0.size : Int) := of_decide_eq_true (by first | (with_reducible assumption) | assumption)
   have hx14 := bt_at a0 x15_1
   replace p14 := eq_true p14
   replace q14 := eq_true q14
   go_wp2_with (first | ((with_reducible refine gtC (f := 49) rfl ?_); refine clz Tryd.func49 (some 22) #[.int .u8 (bt a0 x15_1)] ?_; (with_reducible refine (impl_turnOf.calls (bt a0 x15_1) t386 t387 t388 t389 false _ A15.out).mono ?_); rintro e w38 ⟨rfl, hb⟩; refine ⟨_, rfl, ?_⟩; replace BK380 := bkz BK380 hb; replace BK385 := bkz BK385 hb; replace HB := Az.mk (bwT bw_16 hb); (try clear hb)) | ((with_reducible refine gtD (N := 6) rfl ?_); refine bx (N := 6) (cs := #[.int .i64 0, .int .i64 0, .int .i64 0, .int .i64 0]) (t := 25) ?_; intro gb391 hg w39 hbox hb; have BK391 := Az.mk (hbox); have GW391 := gwz hg bw_16; have GE391 := gwz hg bw_16; replace HB := Az.mk (bwT bw_16 hb); have NB380_391 := nlt BK380 hg; have NB391_380 := ngt BK380 hg; replace BK380 := bkz BK380 hb; have NB385_391 := nlt BK385 hg; have NB391_385 := ngt BK385 hg; replace BK385 := bkz BK385 hb; clear hb hbox hg; have hnb40 := NB391_380.out; have hnc40 := NB380_391.out; have hnb41 := NB391_385.out; have hnc41 := NB385_391.out; obtain ⟨hcz42_0, hcz42_1, hcz42_2, hcz42_3, hfz42_0, hfz42_1, hfz42_2, hfz42_3⟩ := bq4 BK391; have hnb43 := NB380_385.out; have hnc43 := NB385_380.out; obtain ⟨hcz44_0, hcz44_1, hcz44_2, hcz44_3, hfz44_0, hfz44_1, hfz44_2, hfz44_3⟩ := bq4 BK380))
   refine bodyPost_ret (results_ct rfl _ _ gb380 25 #[.int .i64 0, .int .i64 0, .int .i64 0, .int .i64 0] (0, 0) _ rfl bkv Tryd.underlying25 rfl (by kernel_rfl)) rfl ?_
   exact ⟨rq1, bw_16⟩
  subst c16
  rw [if_pos rfl] at H
  replace H := bez H
  obtain ⟨⟨t392, t393, t394, t395, t396⟩, A17, H⟩ := H
  try dsimp only at H
  by_cases c18 : t396 = true
  ·subst c18
   rw [if_pos rfl] at H
   have H' := Az.mk H
   clear H
   have p14 : 0 ≤ (x15_1 : Int) := of_decide_eq_true (by first | (with_reducible assumption) | assumption)
   have q14 : x15_1 < (a0.size : Int) := of_decide_eq_true (by first | (with_reducible assumption) | assumption)
   have hx14 := bt_at a0 x15_1
   replace p14 := eq_true p14
   replace q14 := eq_true q14
   go_wp2_with (first | ((with_reducible refine gtC (f := 49) rfl ?_); refine clz Tryd.func49 (some 22) #[.int .u8 (bt a0 x15_1)] ?_; (with_reducible refine (impl_turnOf.calls (bt a0 x15_1) t386 t387 t388 t389 true _ A15.out).mono ?_); rintro e w19 ⟨rfl, hb⟩; refine ⟨_, rfl, ?_⟩; replace BK380 := bkz BK380 hb; replace BK385 := bkz BK385 hb; replace HB := Az.mk (bwT bw_16 hb); (try clear hb)) | ((with_reducible refine gtD (N := 6) rfl ?_); refine bx (N := 6) (cs := #[.int .i64 0, .int .i64 0, .int .i64 0, .int .i64 0]) (t := 25) ?_; intro gb391 hg w20 hbox hb; have BK391 := Az.mk (hbox); have GW391 := gwz hg bw_16; have GE391 := gwz hg bw_16; replace HB := Az.mk (bwT bw_16 hb); have NB380_391 := nlt BK380 hg; have NB391_380 := ngt BK380 hg; replace BK380 := bkz BK380 hb; have NB385_391 := nlt BK385 hg; have NB391_385 := ngt BK385 hg; replace BK385 := bkz BK385 hb; clear hb hbox hg; have hnb21 := NB391_380.out; have hnc21 := NB380_391.out; have hnb22 := NB391_385.out; have hnc22 := NB385_391.out; obtain ⟨hcz23_0, hcz23_1, hcz23_2, hcz23_3, hfz23_0, hfz23_1, hfz23_2, hfz23_3⟩ := bq4 BK391; have hnb24 := NB385_380.out; have hnc24 := NB380_385.out; obtain ⟨hcz25_0, hcz25_1, hcz25_2, hcz25_3, hfz25_0, hfz25_1, hfz25_2, hfz25_3⟩ := bq4 BK385) | ((with_reducible refine gtC (f := 10) rfl ?_); refine clz Tryd.func10 (some 31) #[.agg #[.int .i64 x386000_1, .int .i64 x386001_1, .int .i64 x386002_1, .int .i64 x386003_1], .agg #[.int .i64 t386, .int .i64 t387, .int .i64 t388, .int .i64 t389]] ?_; (with_reducible refine (impl_TimesMatrix.calls k1 x386000_1 x386001_1 x386002_1 x386003_1 t386 t387 t388 t389 t392 t393 t394 t395 true _ A17.out).mono ?_); rintro e w26 ⟨rfl, hb⟩; refine ⟨_, rfl, ?_⟩; replace BK380 := Az.mk (bkB (g := gb380) (o := .cells #[.int .i64 x381000_1, .int .i64 x381001_1, .int .i64 x381002_1, .int .i64 x381003_1] 25 (0, 0)) bkv hb); replace BK385 := Az.mk (bkB (g := gb385) (o := .cells #[.int .i64 x386000_1, .int .i64 x386001_1, .int .i64 x386002_1, .int .i64 x386003_1] 25 (0, 0)) bkv hb); replace BK391 := Az.mk (bkB (g := gb391) (o := .cells #[.int .i64 t386, .int .i64 t387, .int .i64 t388, .int .i64 t389] 25 (0, 0)) bkv hb); replace HB := Az.mk (bwT bw_16 hb); (try clear hb); obtain ⟨hcz27_0, hcz27_1, hcz27_2, hcz27_3, hfz27_0, hfz27_1, hfz27_2, hfz27_3⟩ := bq4 BK385))
   go_roundg k1
   case measure => have := HK1.out; omega
   case rel => exact ⟨(wrap64 (x15_1 + 1)), (x381000_1), (x381001_1), (x381002_1), (x381003_1), (t392), (t393), (t394), (t395), rq2, H', ⟨by have := HK1.out; omega⟩, ⟨bkv⟩, ⟨bkv⟩, ⟨bw_16⟩⟩
  replace c18 := Bool.eq_false_iff.mpr c18
  subst c18
  rw [if_neg (show ¬ (false = true) by decide)] at H
  simp only [Option.some.injEq, Prod.mk.injEq] at H
  obtain ⟨rfl, rfl, rfl, rfl, rfl⟩ := H
  have p14 : 0 ≤ (x15_1 : Int) := of_decide_eq_true (by first | (with_reducible assumption) | assumption)
  have q14 : x15_1 < (a0.size : Int) := of_decide_eq_true (by first | (with_reducible assumption) | assumption)
  have hx14 := bt_at a0 x15_1
  replace p14 := eq_true p14
  replace q14 := eq_true q14
  go_wp2_with (first | ((with_reducible refine gtC (f := 49) rfl ?_); refine clz Tryd.func49 (some 22) #[.int .u8 (bt a0 x15_1)] ?_; (with_reducible refine (impl_turnOf.calls (bt a0 x15_1) t386 t387 t388 t389 true _ A15.out).mono ?_); rintro e w28 ⟨rfl, hb⟩; refine ⟨_, rfl, ?_⟩; replace BK380 := bkz BK380 hb; replace BK385 := bkz BK385 hb; replace HB := Az.mk (bwT bw_16 hb); (try clear hb)) | ((with_reducible refine gtD (N := 6) rfl ?_); refine bx (N := 6) (cs := #[.int .i64 0, .int .i64 0, .int .i64 0, .int .i64 0]) (t := 25) ?_; intro gb391 hg w29 hbox hb; have BK391 := Az.mk (hbox); have GW391 := gwz hg bw_16; have GE391 := gwz hg bw_16; replace HB := Az.mk (bwT bw_16 hb); have NB380_391 := nlt BK380 hg; have NB391_380 := ngt BK380 hg; replace BK380 := bkz BK380 hb; have NB385_391 := nlt BK385 hg; have NB391_385 := ngt BK385 hg; replace BK385 := bkz BK385 hb; clear hb hbox hg; have hnb30 := NB391_380.out; have hnc30 := NB380_391.out; have hnb31 := NB391_385.out; have hnc31 := NB385_391.out; obtain ⟨hcz32_0, hcz32_1, hcz32_2, hcz32_3, hfz32_0, hfz32_1, hfz32_2, hfz32_3⟩ := bq4 BK391; have hnb33 := NB385_380.out; have hnc33 := NB380_385.out; obtain ⟨hcz34_0, hcz34_1, hcz34_2, hcz34_3, hfz34_0, hfz34_1, hfz34_2, hfz34_3⟩ := bq4 BK385) | ((with_reducible refine gtC (f := 10) rfl ?_); refine clz Tryd.func10 (some 31) #[.agg #[.int .i64 x386000_1, .int .i64 x386001_1, .int .i64 x386002_1, .int .i64 x386003_1], .agg #[.int .i64 t386, .int .i64 t387, .int .i64 t388, .int .i64 t389]] ?_; (with_reducible refine (impl_TimesMatrix.calls k1 x386000_1 x386001_1 x386002_1 x386003_1 t386 t387 t388 t389 t392 t393 t394 t395 false _ A17.out).mono ?_); rintro e w35 ⟨rfl, hb⟩; refine ⟨_, rfl, ?_⟩; replace BK380 := Az.mk (bkB (g := gb380) (o := .cells #[.int .i64 x381000_1, .int .i64 x381001_1, .int .i64 x381002_1, .int .i64 x381003_1] 25 (0, 0)) bkv hb); replace BK385 := Az.mk (bkB (g := gb385) (o := .cells #[.int .i64 x386000_1, .int .i64 x386001_1, .int .i64 x386002_1, .int .i64 x386003_1] 25 (0, 0)) bkv hb); replace BK391 := Az.mk (bkB (g := gb391) (o := .cells #[.int .i64 t386, .int .i64 t387, .int .i64 t388, .int .i64 t389] 25 (0, 0)) bkv hb); replace HB := Az.mk (bwT bw_16 hb); (try clear hb); obtain ⟨hcz36_0, hcz36_1, hcz36_2, hcz36_3, hfz36_0, hfz36_1, hfz36_2, hfz36_3⟩ := bq4 BK385; obtain ⟨hcz37_0, hcz37_1, hcz37_2, hcz37_3, hfz37_0, hfz37_1, hfz37_2, hfz37_3⟩ := bq4 BK380))
  refine bodyPost_ret (results_ct rfl _ _ gb380 25 #[.int .i64 0, .int .i64 0, .int .i64 0, .int .i64 0] (0, 0) _ rfl bkv Tryd.underlying25 rfl (by kernel_rfl)) rfl ?_
  exact ⟨rq1, bw_16⟩

end Go.Proofs.YtnoiijdffdpabaaDoor.P
