-- By this session's driver (wip/tools/mk.py) of the kit's print program, over several statements at once. Not trusted: Lean checks it.
import Derived.Test.YtkmjcdlhlhefdaaQWZip
import Derived.Test.YtkmjcdlhlhefdaaQPx0
import Derived.Test.YtkmjcdlhlhefdaaQPx1
import Derived.Test.YtkmjcdlhlhefdaaQPx2
import Derived.Test.YtkmjcdlhlhefdaaQPx5
import Derived.Test.YtkmjcdlhlhefdaaQPx8
import Derived.Test.YtkmjcdlhlhefdaaQPx9
namespace Go.Proofs.Ytkmjcdlhlhefdaa.P
open Go.RowKit Go.Proofs.YtkmjcdlhlhefdaaW.PrintWords Go.Proofs.YtkmjcdlhlhefdaaW.PrintLast Go.Proofs.YtkmjcdlhlhefdaaW.PrintMore
attribute [local go_sem] max2_int min2_int max_two min_two max_three min_three max_four min_four   -- for this text's walks alone
set_option linter.unusedVariables false
set_option linter.unusedSimpArgs false

theorem bw_10 {n : Nat} {v v' : World} (h : Below n v v' := by repeat (first | (with_reducible first | exact HB.out | apply bwA | apply pbN | apply bwD) | exact HB.out)) : Below n v v' := h

theorem ln_10 {P : Prop} (h : P := by (try simp only [List.map_toArray, List.map_cons, List.map_nil]); first | done | rfl | (simp only [List.length_drop, List.length_take]; rfl)) : P := h
open Option renaming bind_eq_some_iff → be

/-! ### impl_CurveGenus: function 6 -/
def impl_CurveGenus.l0 : Nat → List Int → Int → Int → Option (Int)
 | 0, _, _, _ => none
 | k + 1, x0, x3, x8 => if x8 < 256 then ((impl_crossingMap.f k x0 x8).bind fun t281 => ((impl_GenusOf.f k t281).bind fun t284 => (impl_CurveGenus.l0 k x0 (mn x3 t284) (wrap64 (x8 + 1))))) else (some x3)
def impl_CurveGenus.f (k : Nat) (l0 : List Int) : Option (Int) := (impl_IsCrossingWord.f k l0).bind fun t280 => (if t280 = true then (impl_CurveGenus.l0 k l0 1000 0) else (some (-1)))
set_option maxHeartbeats 8000000 in
set_option maxRecDepth 100000 in
theorem impl_CurveGenus.calls (k : Nat) (A0 : Option Addr) (c0 : Nat) (l0 : List Int) (r : Int) (w : World) (hr0 : Kd.C (Kd.int .i64) w A0 l0.length l0) (hc0 : l0.length ≤ c0) (h : impl_CurveGenus.f k l0 = some r) :
  Calls Try.prog 6 #[.slice A0 l0.length c0] w fun e w' => e = .returned (.int .i64 r) ∧ Below w.heap.size w w' := by
 have HR0 := Az.mk hr0
 have HC0 := Az.mk hc0
 clear hr0 hc0
 have HB := Az.mk (Below.refl w.heap.size w)
 have H : ((impl_IsCrossingWord.f k l0).bind fun t280 => (if t280 = true then (impl_CurveGenus.l0 k l0 1000 0) else (some (-1)))) = some r := h
 clear h
 replace H := bez H
 obtain ⟨t280, A2, H⟩ := H
 try dsimp only at H
 by_cases c3 : t280 = true
 rotate_left
 ·replace c3 := Bool.eq_false_iff.mpr c3
  subst c3
  rw [if_neg ff] at H
  obtain rfl := Option.some.inj H
  go_enter Try.func6, Try.ntmps6
  go_wp2_with (first | ((with_reducible refine gtC (f := 22) rfl ?_); refine clz Try.func22 (some 6) #[.slice A0 l0.length c0] ?_; (with_reducible refine (impl_IsCrossingWord.calls k _ _ l0 false _ ?side1 ?side2 A2.out).mono ?_); (case side1 => exact kC HR0.out); (case side2 => exact HC0.out); rintro e w12 ⟨rfl, hb⟩; refine ⟨_, rfl, ?_⟩; replace HB := Az.mk (bwT bw_10 hb); (try clear hb)))
  go_ret
  exact ⟨rq1, bw_10⟩
 subst c3
 rw [if_pos rfl] at H
 have H' := Az.mk H
 clear H
 go_enter Try.func6, Try.ntmps6
 go_wp2_with (first | ((with_reducible refine gtC (f := 22) rfl ?_); refine clz Try.func22 (some 6) #[.slice A0 l0.length c0] ?_; (with_reducible refine (impl_IsCrossingWord.calls k _ _ l0 true _ ?side1 ?side2 A2.out).mono ?_); (case side1 => exact kC HR0.out); (case side2 => exact HC0.out); rintro e w4 ⟨rfl, hb⟩; refine ⟨_, rfl, ?_⟩; replace HB := Az.mk (bwT bw_10 hb); (try clear hb)))
 go_loopg [3, 8] k (fun kq v3 v8 w' => ∃ (x3_1 : Int) (x8_1 : Int), v3 = .int .i64 x3_1 ∧ v8 = .int .i64 x8_1 ∧ Az (impl_CurveGenus.l0 kq l0 x3_1 x8_1 = some r) ∧ Az (kq ≤ k) ∧ Az (Below w.heap.size w w'))
 case atStart => exact ⟨(1000), (0), rq2, rq2, H', ⟨Nat.le_refl _⟩, ⟨bw_10⟩⟩
 clear H'
 try clear c3
 obtain ⟨x3_1, x8_1, rfl, rfl, HA, HK1, HB⟩ := hrel
 cases gk with
 | zero => exact absurd HA.out (by simp [impl_CurveGenus.l0])
 | succ k1 =>
  have H := HA.out
  clear HA
  simp only [impl_CurveGenus.l0] at H
  by_cases c5 : x8_1 < 256
  rotate_left
  ·rw [if_neg c5] at H
   have c5b0 : decide (x8_1 < 256) = false := decide_eq_false c5
   clear c5
   obtain rfl := Option.some.inj H
   go_wp2
   go_ret
   exact ⟨rq1, bw_10⟩
  rw [if_pos c5] at H
  have c5b0 : decide (x8_1 < 256) = true := decide_eq_true c5
  clear c5
  replace H := bez H
  obtain ⟨t281, A6, H⟩ := H
  try dsimp only at H
  replace H := bez H
  obtain ⟨t284, A7, H⟩ := H
  try dsimp only at H
  obtain ⟨ji8, hji8⟩ : ∃ j_ : Int, (mn x3_1 t284) = j_ := ⟨_, rfl⟩
  replace H : (impl_CurveGenus.l0 k1 l0 ji8 (wrap64 (x8_1 + 1))) = some r := by first | (rw [hji8] at H; exact H) | (simp only [hji8] at H ⊢; exact H)
  (try rw [hji8] at A6)
  (try rw [hji8] at A7)
  have hji8_ : (if t284 < x3_1 then t284 else x3_1) = ji8 := hji8
  have H' := Az.mk H
  clear H
  go_wp2_with (first | ((with_reducible refine gtC (f := 33) rfl ?_); refine clz Try.func33 (some 14) #[.slice A0 l0.length c0, .int .i64 x8_1] ?_; (with_reducible refine (impl_crossingMap.calls k1 _ _ l0 x8_1 t281 _ ?side1 ?side2 A6.out).mono ?_); (case side1 => exact kC (Kd.C_below HR0.out HB.out)); (case side2 => exact HC0.out); rintro e w9 ⟨v282, rfl, ho0, hb⟩; refine ⟨_, rfl, ?_⟩; have HO283 := Az.mk (Kd.R_lower ho0 (bwZ bw_10)); replace HB := Az.mk (bwT bw_10 hb); (try clear hb); (try clear ho0); obtain ⟨Ao10, co10, eo10⟩ := Kd.R_slice HO283.out; subst eo10) | ((with_reducible refine gtC (f := 32) rfl ?_); refine clz Try.func32 (some 15) #[.slice Ao10 t281.length co10] ?_; (with_reducible refine (impl_GenusOf.calls k1 _ _ t281 t284 _ ?side1 ?side2 A7.out).mono ?_); (case side1 => exact kC (Kd.R_reads' HO283.out).2.2); (case side2 => exact (Kd.R_reads' HO283.out).2.1); rintro e w11 ⟨rfl, hb⟩; refine ⟨_, rfl, ?_⟩; replace HO283 := Az.mk (Kd.R_below (kR HO283.out) hb); replace HB := Az.mk (bwT bw_10 hb); (try clear hb)))
  go_roundg k1
  case measure => have := HK1.out; omega
  case rel => exact ⟨(ji8), (wrap64 (x8_1 + 1)), (by first | rfl | (simp; done) | (simp only [← hji8] <;> (first | rfl | simp)) | (simp [*]; done)), rq2, H', ⟨by have := HK1.out; omega⟩, ⟨bw_10⟩⟩

/-! ### spec_DrawAreLinked: function 7 -/
def spec_DrawAreLinked.f (k : Nat) (l0 : List Int) : Option (List Int × Int × Int) := (spec_l1New.f k l0).bind fun bt285 => ((spec_l18Draw.f k bt285.1 bt285.2.1 bt285.2.2).bind fun bt289 => ((spec_l1Below.f bt285.1 bt289.2.1 bt289.2.2 5).bind fun bt294 => ((spec_l1Below.f bt285.1 bt294.2.1 bt294.2.2 4).bind fun bt297 => (some (bt289.1, bt294.1, wrap64 (1 + bt297.1))))))
set_option maxHeartbeats 8000000 in
set_option maxRecDepth 100000 in
theorem spec_DrawAreLinked.calls (k : Nat) (A0 : Option Addr) (c0 : Nat) (l0 : List Int) (r1 : List Int) (r2 : Int) (r3 : Int) (w : World) (hr0 : Kd.C (Kd.int .u8) w A0 l0.length l0) (hc0 : l0.length ≤ c0) (h : spec_DrawAreLinked.f k l0 = some (r1, r2, r3)) :
  Calls Try.prog 7 #[.slice A0 l0.length c0] w fun e w' => ∃ v0_ : Value, e = .returned (.tuple #[v0_, .int .i64 r2, .int .i64 r3]) ∧ Kd.R (Kd.int .i64) 3 w' w.heap.size (fun _ => True) v0_ r1 ∧ Below w.heap.size w w' := by
 have HR0 := Az.mk hr0
 have HC0 := Az.mk hc0
 clear hr0 hc0
 have HB := Az.mk (Below.refl w.heap.size w)
 have H : ((spec_l1New.f k l0).bind fun bt285 => ((spec_l18Draw.f k bt285.1 bt285.2.1 bt285.2.2).bind fun bt289 => ((spec_l1Below.f bt285.1 bt289.2.1 bt289.2.2 5).bind fun bt294 => ((spec_l1Below.f bt285.1 bt294.2.1 bt294.2.2 4).bind fun bt297 => (some (bt289.1, bt294.1, wrap64 (1 + bt297.1))))))) = some (r1, r2, r3) := h
 clear h
 replace H := bez H
 obtain ⟨⟨t285, t286, t287⟩, A2, H⟩ := H
 try dsimp only at H
 replace H := bez H
 obtain ⟨⟨t289, t292, t293⟩, A3, H⟩ := H
 try dsimp only at H
 replace H := bez H
 obtain ⟨⟨t294, t295, t296⟩, A4, H⟩ := H
 try dsimp only at H
 replace H := bez H
 obtain ⟨⟨t297, t298, t299⟩, A5, H⟩ := H
 try dsimp only at H
 simp only [Option.some.injEq, Prod.mk.injEq] at H
 obtain ⟨rfl, rfl, rfl⟩ := H
 go_enter Try.func7, Try.ntmps7
 go_wp2_with (first | ((with_reducible refine gtC (f := 31) rfl ?_); refine clz Try.func31 (some 7) #[.slice A0 l0.length c0] ?_; (with_reducible refine (spec_l1New.calls k _ _ l0 t285 t286 t287 w _ ?side1 ?side2 ?side3 A2.out).mono ?_); (case side1 => exact bw_10); (case side2 => exact HR0.out); (case side3 => exact HC0.out); rintro e w6 ⟨g288, rfl, hi, hb, hb2⟩; refine ⟨_, rfl, ?_⟩; replace HB := Az.mk (hb); have HI288 := Az.mk (hi); (try clear hb); (try clear hb2); (try clear hi)) | ((with_reducible refine gtC (f := 30) rfl ?_); refine clz Try.func30 (some 9) #[.pointer (some ⟨g288, 0, none⟩)] ?_; (with_reducible refine (spec_l18Draw.calls k g288 t285 t286 t287 t289 t292 t293 w _ ?side1 ?side2 A3.out).mono ?_); (case side1 => exact (kI HI288.out)); (case side2 => exact kG HB.out (IsS51.ge HI288.out)); rintro e w7 ⟨v290, rfl, ho0, hi, hb, hk⟩; refine ⟨_, rfl, ?_⟩; have HO291 := Az.mk (Kd.R_lower ho0 (bwZ (kG HB.out (IsS51.ge HI288.out)))); replace HB := Az.mk (hb); replace HI288 := Az.mk (hi); (try clear hb); (try clear hk); (try clear hi); (try clear ho0)) | ((with_reducible refine gtC (f := 34) rfl ?_); refine clz Try.func34 (some 11) #[.pointer (some ⟨g288, 0, none⟩), .int .i64 5] ?_; (with_reducible refine (spec_l1Below.calls g288 t285 t292 t293 5 t294 t295 t296 w _ ?side1 ?side2 A4.out).mono ?_); (case side1 => exact (kI HI288.out)); (case side2 => exact kG HB.out (IsS51.ge HI288.out)); rintro e w8 ⟨rfl, hi, hb, hk⟩; refine ⟨_, rfl, ?_⟩; replace HO291 := Az.mk (Kd.R_mono (Kd.R_keep (IsS51.apart (show IsS51 w _ g288 t285 t292 t293 from kI HI288.out) (kR HO291.out) (by decide)) hk (fun _ h => h.2)) (fun _ h => h.1)); replace HB := Az.mk (hb); replace HI288 := Az.mk (hi); (try clear hb); (try clear hk); (try clear hi)) | ((with_reducible refine gtC (f := 34) rfl ?_); refine clz Try.func34 (some 13) #[.pointer (some ⟨g288, 0, none⟩), .int .i64 4] ?_; (with_reducible refine (spec_l1Below.calls g288 t285 t295 t296 4 t297 t298 t299 w _ ?side1 ?side2 A5.out).mono ?_); (case side1 => exact (kI HI288.out)); (case side2 => exact kG HB.out (IsS51.ge HI288.out)); rintro e w9 ⟨rfl, hi, hb, hk⟩; refine ⟨_, rfl, ?_⟩; replace HO291 := Az.mk (Kd.R_mono (Kd.R_keep (IsS51.apart (show IsS51 w _ g288 t285 t295 t296 from kI HI288.out) (kR HO291.out) (by decide)) hk (fun _ h => h.2)) (fun _ h => h.1)); replace HB := Az.mk (hb); replace HI288 := Az.mk (hi); (try clear hb); (try clear hk); (try clear hi)))
 go_ret3
 exact ⟨_, rq1, kR HO291.out, kG HB.out (IsS51.ge HI288.out)⟩

/-! ### spec_DrawCrossingMap: function 8 -/
def spec_DrawCrossingMap.f (k : Nat) (l0 : List Int) : Option (List Int × Int) := (spec_l1New.f k l0).bind fun bt300 => ((spec_l18Draw.f k bt300.1 bt300.2.1 bt300.2.2).bind fun bt304 => ((spec_l1PickInt.f bt300.1 bt304.2.1 bt304.2.2 (([0, 1, 2, 3, 5, 31, 255, 256, (-1)] : List Int))).bind fun bt312 => (some (bt304.1, bt312.1))))
set_option maxHeartbeats 8000000 in
set_option maxRecDepth 100000 in
theorem spec_DrawCrossingMap.calls (k : Nat) (A0 : Option Addr) (c0 : Nat) (l0 : List Int) (r1 : List Int) (r2 : Int) (w : World) (hr0 : Kd.C (Kd.int .u8) w A0 l0.length l0) (hc0 : l0.length ≤ c0) (h : spec_DrawCrossingMap.f k l0 = some (r1, r2)) :
  Calls Try.prog 8 #[.slice A0 l0.length c0] w fun e w' => ∃ v0_ : Value, e = .returned (.tuple #[v0_, .int .i64 r2]) ∧ Kd.R (Kd.int .i64) 3 w' w.heap.size (fun _ => True) v0_ r1 ∧ Below w.heap.size w w' := by
 have HR0 := Az.mk hr0
 have HC0 := Az.mk hc0
 clear hr0 hc0
 have HB := Az.mk (Below.refl w.heap.size w)
 have H : ((spec_l1New.f k l0).bind fun bt300 => ((spec_l18Draw.f k bt300.1 bt300.2.1 bt300.2.2).bind fun bt304 => ((spec_l1PickInt.f bt300.1 bt304.2.1 bt304.2.2 (([0, 1, 2, 3, 5, 31, 255, 256, (-1)] : List Int))).bind fun bt312 => (some (bt304.1, bt312.1))))) = some (r1, r2) := h
 clear h
 replace H := bez H
 obtain ⟨⟨t300, t301, t302⟩, A2, H⟩ := H
 try dsimp only at H
 replace H := bez H
 obtain ⟨⟨t304, t307, t308⟩, A3, H⟩ := H
 try dsimp only at H
 obtain ⟨y309, hy⟩ : ∃ y_ : List Int, y_ = (([0, 1, 2, 3, 5, 31, 255, 256, (-1)] : List Int)) := ⟨_, rfl⟩
 replace H : ((spec_l1PickInt.f t300 t307 t308 y309).bind fun bt312 => (some (t304, bt312.1))) = some (r1, r2) := rh
 have Ny309 := Az.mk hy
 clear hy
 replace H := bez H
 obtain ⟨⟨t312, t313, t314⟩, A4, H⟩ := H
 try dsimp only at H
 simp only [Option.some.injEq, Prod.mk.injEq] at H
 obtain ⟨rfl, rfl⟩ := H
 go_enter Try.func8, Try.ntmps8
 go_wp2_with (first | ((with_reducible refine gtC (f := 31) rfl ?_); refine clz Try.func31 (some 6) #[.slice A0 l0.length c0] ?_; (with_reducible refine (spec_l1New.calls k _ _ l0 t300 t301 t302 w _ ?side1 ?side2 ?side3 A2.out).mono ?_); (case side1 => exact bw_10); (case side2 => exact HR0.out); (case side3 => exact HC0.out); rintro e w5 ⟨g303, rfl, hi, hb, hb2⟩; refine ⟨_, rfl, ?_⟩; replace HB := Az.mk (hb); have HI303 := Az.mk (hi); (try clear hb); (try clear hb2); (try clear hi)) | ((with_reducible refine gtC (f := 30) rfl ?_); refine clz Try.func30 (some 8) #[.pointer (some ⟨g303, 0, none⟩)] ?_; (with_reducible refine (spec_l18Draw.calls k g303 t300 t301 t302 t304 t307 t308 w _ ?side1 ?side2 A3.out).mono ?_); (case side1 => exact (kI HI303.out)); (case side2 => exact kG HB.out (IsS51.ge HI303.out)); rintro e w6 ⟨v305, rfl, ho0, hi, hb, hk⟩; refine ⟨_, rfl, ?_⟩; have HO306 := Az.mk (Kd.R_lower ho0 (bwZ (kG HB.out (IsS51.ge HI303.out)))); replace HB := Az.mk (hb); replace HI303 := Az.mk (hi); (try clear hb); (try clear hk); (try clear hi); (try clear ho0)) | ((with_reducible refine gtD (N := 10) rfl ?_); refine Kd.R_lit (Kd.int .i64) _ 3 ?hg (N := 10) ?hd (xs := ([0, 1, 2, 3, 5, 31, 255, 256, (-1)] : List Int)) (inner := [.int .i64 0, .int .i64 1, .int .i64 2, .int .i64 3, .int .i64 5, .int .i64 31, .int .i64 255, .int .i64 256, .int .i64 (-1)]) (ok := fun _ => True) (okp := fun _ => True) ?hr ?hp (fun _ hk => hk) trivial (Below.refl _ _) (Nat.le_refl _) (by simp) ?_; (case hd => rfl); (case hg => rfl); (case hr => first | (go_simp; done) | (go_simp; rfl)); (case hp => exact (Reps.one (show Kd.M (Kd.int .i64) _ _ _ 0 [.int .i64 0] from rfl) (Reps.one (show Kd.M (Kd.int .i64) _ _ _ 1 [.int .i64 1] from rfl) (Reps.one (show Kd.M (Kd.int .i64) _ _ _ 2 [.int .i64 2] from rfl) (Reps.one (show Kd.M (Kd.int .i64) _ _ _ 3 [.int .i64 3] from rfl) (Reps.one (show Kd.M (Kd.int .i64) _ _ _ 5 [.int .i64 5] from rfl) (Reps.one (show Kd.M (Kd.int .i64) _ _ _ 31 [.int .i64 31] from rfl) (Reps.one (show Kd.M (Kd.int .i64) _ _ _ 255 [.int .i64 255] from rfl) (Reps.one (show Kd.M (Kd.int .i64) _ _ _ 256 [.int .i64 256] from rfl) (Reps.one (show Kd.M (Kd.int .i64) _ _ _ (-1) [.int .i64 (-1)] from rfl) (Reps.none _ _))))))))))); intro v310 w7 ho8 hb hg_ hnew_; clear hg_ hnew_; (first | rw [← Ny309.out] at ho8 | (simp only [Int.reduceToNat] at ho8; rw [← Ny309.out] at ho8)); have HO311 := Az.mk (Kd.R_lower (Kd.R_new' ho8 (Kd.R_lt (kR HO306.out))) (bwZ (kG HB.out (IsS51.ge HI303.out)))); replace HO306 := Az.mk (Kd.R_elder' (kR HO306.out) (Kd.R_base ho8) hb); replace HB := Az.mk (bwT (kG HB.out (IsS51.ge HI303.out)) hb); replace HI303 := Az.mk (IsS51.below (kI HI303.out) hb); clear hb ho8; obtain ⟨Ao9, co9, eo9⟩ := Kd.R_slice HO311.out; subst eo9) | ((with_reducible refine gtC (f := 35) rfl ?_); refine clz Try.func35 (some 11) #[.pointer (some ⟨g303, 0, none⟩), .slice Ao9 y309.length co9] ?_; (with_reducible refine (spec_l1PickInt.calls g303 t300 t307 t308 _ _ y309 t312 t313 t314 w _ ?side1 ?side2 ?side3 ?side4 ?side5 A4.out).mono ?_); (case side1 => exact (kI HI303.out)); (case side2 => exact kG HB.out (IsS51.ge HI303.out)); (case side3 => exact kC (Kd.R_reads' HO311.out).2.2); (case side4 => exact (Kd.R_reads' HO311.out).2.1); (case side5 => exact far_slice (IsS51.own_ne HI303.out HO311.out (by decide))); rintro e w10 ⟨rfl, hi, hb, hk⟩; refine ⟨_, rfl, ?_⟩; replace HO306 := Az.mk (Kd.R_mono (Kd.R_keep (IsS51.apart (show IsS51 w _ g303 t300 t307 t308 from kI HI303.out) (kR HO306.out) (by decide)) hk (fun _ h => h.2)) (fun _ h => h.1)); replace HO311 := Az.mk (Kd.R_mono (Kd.R_keep (IsS51.apart (show IsS51 w _ g303 t300 t307 t308 from kI HI303.out) (kR HO311.out) (by decide)) hk (fun _ h => h.2)) (fun _ h => h.1)); replace HB := Az.mk (hb); replace HI303 := Az.mk (hi); (try clear hb); (try clear hk); (try clear hi)))
 go_ret2
 exact ⟨_, rq1, by (with_reducible repeat (first | apply Kd.R_alloc | apply Kd.R_drewN | apply Kd.R_drew)); exact Kd.R_mono HO306.out (fun _ hk => trivial), kG HB.out (IsS51.ge HI303.out)⟩

/-! ### impl_CrossingMap: function 9 -/
def impl_CrossingMap.f (k : Nat) (l0 : List Int) (a1 : Int) : Option (List Int × Bool) := (impl_IsCrossingWord.f k l0).bind fun t315 => (if t315 = true then ((impl_within.f a1 0 255).bind fun t316 => (if t316 = true then ((impl_crossingMap.f k l0 a1).bind fun t317 => (some (t317, true))) else (some (([] : List Int), false)))) else (some (([] : List Int), false)))
set_option maxHeartbeats 8000000 in
set_option maxRecDepth 100000 in
theorem impl_CrossingMap.calls (k : Nat) (A0 : Option Addr) (c0 : Nat) (l0 : List Int) (a1 : Int) (r1 : List Int) (r2 : Bool) (w : World) (hr0 : Kd.C (Kd.int .i64) w A0 l0.length l0) (hc0 : l0.length ≤ c0) (h : impl_CrossingMap.f k l0 a1 = some (r1, r2)) :
  Calls Try.prog 9 #[.slice A0 l0.length c0, .int .i64 a1] w fun e w' => ∃ v0_ : Value, e = .returned (.tuple #[v0_, .bool r2]) ∧ Kd.R (Kd.int .i64) 3 w' w.heap.size (fun _ => True) v0_ r1 ∧ Below w.heap.size w w' := by
 have HR0 := Az.mk hr0
 have HC0 := Az.mk hc0
 clear hr0 hc0
 have HB := Az.mk (Below.refl w.heap.size w)
 have H : ((impl_IsCrossingWord.f k l0).bind fun t315 => (if t315 = true then ((impl_within.f a1 0 255).bind fun t316 => (if t316 = true then ((impl_crossingMap.f k l0 a1).bind fun t317 => (some (t317, true))) else (some (([] : List Int), false)))) else (some (([] : List Int), false)))) = some (r1, r2) := h
 clear h
 replace H := bez H
 obtain ⟨t315, A3, H⟩ := H
 try dsimp only at H
 by_cases c4 : t315 = true
 rotate_left
 ·replace c4 := Bool.eq_false_iff.mpr c4
  subst c4
  rw [if_neg ff] at H
  simp only [Option.some.injEq, Prod.mk.injEq] at H
  obtain ⟨rfl, rfl⟩ := H
  go_enter Try.func9, Try.ntmps9
  go_wp2_with (first | ((with_reducible refine gtC (f := 22) rfl ?_); refine clz Try.func22 (some 7) #[.slice A0 l0.length c0] ?_; (with_reducible refine (impl_IsCrossingWord.calls k _ _ l0 false _ ?side1 ?side2 A3.out).mono ?_); (case side1 => exact kC HR0.out); (case side2 => exact HC0.out); rintro e w11 ⟨rfl, hb⟩; refine ⟨_, rfl, ?_⟩; replace HB := Az.mk (bwT bw_10 hb); (try clear hb)))
  go_ret2
  exact ⟨_, rq1, by first | exact Kd.R_nil _ _ _ _ _ | exact Kd.N_nil _ _ _ _ _ | exact Kd.V_nil _ _ _ _ _ | exact Kd.Q_nil _ _ _ _ _ | exact Kd.S_nil _ _ _ _ _, bw_10⟩
 subst c4
 rw [if_pos rfl] at H
 replace H := bez H
 obtain ⟨t316, A5, H⟩ := H
 try dsimp only at H
 by_cases c6 : t316 = true
 rotate_left
 ·replace c6 := Bool.eq_false_iff.mpr c6
  subst c6
  rw [if_neg ff] at H
  simp only [Option.some.injEq, Prod.mk.injEq] at H
  obtain ⟨rfl, rfl⟩ := H
  go_enter Try.func9, Try.ntmps9
  go_wp2_with (first | ((with_reducible refine gtC (f := 22) rfl ?_); refine clz Try.func22 (some 7) #[.slice A0 l0.length c0] ?_; (with_reducible refine (impl_IsCrossingWord.calls k _ _ l0 true _ ?side1 ?side2 A3.out).mono ?_); (case side1 => exact kC HR0.out); (case side2 => exact HC0.out); rintro e w10 ⟨rfl, hb⟩; refine ⟨_, rfl, ?_⟩; replace HB := Az.mk (bwT bw_10 hb); (try clear hb)) | (go_at_call 36; (with_reducible refine (impl_within.calls a1 0 255 false _ A5.out).mono ?_); rintro e w' ⟨rfl, ⟨nd, rfl⟩⟩))
  go_ret2
  exact ⟨_, rq1, by first | exact Kd.R_nil _ _ _ _ _ | exact Kd.N_nil _ _ _ _ _ | exact Kd.V_nil _ _ _ _ _ | exact Kd.Q_nil _ _ _ _ _ | exact Kd.S_nil _ _ _ _ _, bw_10⟩
 subst c6
 rw [if_pos rfl] at H
 replace H := bez H
 obtain ⟨t317, A7, H⟩ := H
 try dsimp only at H
 simp only [Option.some.injEq, Prod.mk.injEq] at H
 obtain ⟨rfl, rfl⟩ := H
 go_enter Try.func9, Try.ntmps9
 go_wp2_with (first | ((with_reducible refine gtC (f := 22) rfl ?_); refine clz Try.func22 (some 7) #[.slice A0 l0.length c0] ?_; (with_reducible refine (impl_IsCrossingWord.calls k _ _ l0 true _ ?side1 ?side2 A3.out).mono ?_); (case side1 => exact kC HR0.out); (case side2 => exact HC0.out); rintro e w8 ⟨rfl, hb⟩; refine ⟨_, rfl, ?_⟩; replace HB := Az.mk (bwT bw_10 hb); (try clear hb)) | (go_at_call 36; (with_reducible refine (impl_within.calls a1 0 255 true _ A5.out).mono ?_); rintro e w' ⟨rfl, ⟨nd, rfl⟩⟩) | ((with_reducible refine gtC (f := 33) rfl ?_); refine clz Try.func33 (some 16) #[.slice A0 l0.length c0, .int .i64 a1] ?_; (with_reducible refine (impl_crossingMap.calls k _ _ l0 a1 t317 _ ?side1 ?side2 A7.out).mono ?_); (case side1 => exact kC (Kd.C_below HR0.out bw_10)); (case side2 => exact HC0.out); rintro e w9 ⟨v318, rfl, ho0, hb⟩; refine ⟨_, rfl, ?_⟩; have HO319 := Az.mk (Kd.R_lower ho0 (bwZ bw_10)); replace HB := Az.mk (bwT bw_10 hb); (try clear hb); (try clear ho0)))
 go_ret2
 exact ⟨_, rq1, kR HO319.out, bw_10⟩

/-! ### spec_l1In: function 37 -/
def spec_l1In.f (a0 : Int) (a1 : Int) (a2 : Int) : Option (Bool) := if a0 ≥ a1 then (some (decide (a0 ≤ a2))) else (some false)
set_option maxHeartbeats 8000000 in
set_option maxRecDepth 100000 in
theorem spec_l1In.calls (a0 : Int) (a1 : Int) (a2 : Int) (r : Bool) (w : World) (h : spec_l1In.f a0 a1 a2 = some r) :
  Calls Try.prog 37 #[.int .i64 a0, .int .i64 a1, .int .i64 a2] w fun e w' => e = .returned (.bool r) ∧ Drawn0 w w' := by
 have H : (if a0 ≥ a1 then (some (decide (a0 ≤ a2))) else (some false)) = some r := h
 clear h
 by_cases c4 : a0 ≥ a1
 ·rw [if_pos c4] at H
  have c4b0 : decide (a1 ≤ a0) = true := decide_eq_true c4
  clear c4
  obtain rfl := Option.some.inj H
  go_enter Try.func37, Try.ntmps37
  go_wp2
  go_ret
  exact ⟨rq2, kd⟩
 rw [if_neg c4] at H
 have c4b0 : decide (a1 ≤ a0) = false := decide_eq_false c4
 clear c4
 obtain rfl := Option.some.inj H
 go_enter Try.func37, Try.ntmps37
 go_wp2
 go_ret
 exact ⟨rq2, kd⟩

/-! ### spec_l1Bit: function 48 -/
def spec_l1Bit.f (a0 : Bool) : Option (Int) := if a0 = true then (some 1) else (some 0)
set_option maxHeartbeats 8000000 in
set_option maxRecDepth 100000 in
theorem spec_l1Bit.calls (a0 : Bool) (r : Int) (w : World) (h : spec_l1Bit.f a0 = some r) :
  Calls Try.prog 48 #[.bool a0] w fun e w' => e = .returned (.int .i64 r) ∧ Drawn0 w w' := by
 have H : (if a0 = true then (some 1) else (some 0)) = some r := h
 clear h
 by_cases c2 : a0 = true
 ·subst c2
  rw [if_pos rfl] at H
  obtain rfl := Option.some.inj H
  go_enter Try.func48, Try.ntmps48
  go_wp2
  go_ret
  exact ⟨rq2, kd⟩
 replace c2 := Bool.eq_false_iff.mpr c2
 subst c2
 rw [if_neg ff] at H
 obtain rfl := Option.some.inj H
 go_enter Try.func48, Try.ntmps48
 go_wp2
 go_ret
 exact ⟨rq2, kd⟩

/-! ### spec_l1Max: function 76 -/
def spec_l1Max.f (a0 : Int) (a1 : Int) : Option (Int) := if a0 > a1 then (some a0) else (some a1)
set_option maxHeartbeats 8000000 in
set_option maxRecDepth 100000 in
theorem spec_l1Max.calls (a0 : Int) (a1 : Int) (r : Int) (w : World) (h : spec_l1Max.f a0 a1 = some r) :
  Calls Try.prog 76 #[.int .i64 a0, .int .i64 a1] w fun e w' => e = .returned (.int .i64 r) ∧ Drawn0 w w' := by
 have H : (if a0 > a1 then (some a0) else (some a1)) = some r := h
 clear h
 by_cases c3 : a0 > a1
 ·rw [if_pos c3] at H
  have c3b0 : decide (a1 < a0) = true := decide_eq_true c3
  clear c3
  obtain rfl := Option.some.inj H
  go_enter Try.func76, Try.ntmps76
  go_wp2
  go_ret
  exact ⟨rq2, kd⟩
 rw [if_neg c3] at H
 have c3b0 : decide (a1 < a0) = false := decide_eq_false c3
 clear c3
 obtain rfl := Option.some.inj H
 go_enter Try.func76, Try.ntmps76
 go_wp2
 go_ret
 exact ⟨rq2, kd⟩

/-! ### spec_l3Abs: function 65 -/
def spec_l3Abs.f (a0 : Int) : Option (Int) := (spec_l1Max.f a0 (wrap64 (-a0))).bind fun t320 => (some t320)
set_option maxHeartbeats 8000000 in
set_option maxRecDepth 100000 in
theorem spec_l3Abs.calls (a0 : Int) (r : Int) (w : World) (h : spec_l3Abs.f a0 = some r) :
  Calls Try.prog 65 #[.int .i64 a0] w fun e w' => e = .returned (.int .i64 r) ∧ Drawn0 w w' := by
 have H : ((spec_l1Max.f a0 (wrap64 (-a0))).bind fun t320 => (some t320)) = some r := h
 clear h
 replace H := bez H
 obtain ⟨t320, A2, H⟩ := H
 replace H : (some t320) = some r := H
 obtain rfl := Option.some.inj H
 go_enter Try.func65, Try.ntmps65
 go_wp2_with (first | ((with_reducible refine gtC (f := 76) rfl ?_); refine clz Try.func76 (some 6) #[.int .i64 a0, .int .i64 (wrap64 (-a0))] ?_; (with_reducible refine (spec_l1Max.calls a0 (wrap64 (-a0)) t320 _ A2.out).mono ?_); rintro e w' ⟨rfl, ⟨nd, rfl⟩⟩; refine ⟨_, rfl, ?_⟩))
 go_ret
 exact ⟨rq2, kd⟩

end Go.Proofs.Ytkmjcdlhlhefdaa.P
