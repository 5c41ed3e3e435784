-- By this session's driver (wip/tools/mk.py) of the kit's print program, over several statements at once. Not trusted: Lean checks it.
import Derived.Test.YtnoiijdffdpabaaDoorQWZip
import Derived.Test.YtnoiijdffdpabaaDoorQPx0
import Derived.Test.YtnoiijdffdpabaaDoorQPx2
import Derived.Test.YtnoiijdffdpabaaDoorQPx9
import Derived.Test.YtnoiijdffdpabaaDoorQPx11
import Derived.Test.YtnoiijdffdpabaaDoorQPx13
namespace Go.Proofs.YtnoiijdffdpabaaDoor.P
open Go.RowKit Go.Proofs.YtnoiijdffdpabaaDoorW.PrintWords Go.Proofs.YtnoiijdffdpabaaDoorW.PrintLast Go.Proofs.YtnoiijdffdpabaaDoorW.PrintMore
attribute [local go_sem] max2_int min2_int max_two min_two max_three min_three max_four min_four   -- for this text's walks alone
set_option linter.unusedVariables false
set_option linter.unusedSimpArgs false
theorem bw_14 {n : Nat} {v v' : World} (h : Below n v v' := by repeat (first | (with_reducible first | exact HB.out | apply bwA | apply pbN | apply bwD | refine bwS ?_ GE307.out | refine bwS ?_ GE325.out) | exact HB.out)) : Below n v v' := h
theorem ln_14 {P : Prop} (h : P := by (try simp only [List.map_toArray, List.map_cons, List.map_nil]); first | done | rfl | (simp only [List.length_drop, List.length_take]; rfl)) : P := h
open Option renaming bind_eq_some_iff → be
theorem z14_6 {p : Prop} (h : p := by repeat (first | (with_reducible first | exact HI0.out | apply IsS71.alloc | apply IsS71.drewN | apply IsS71.drew | apply IsS71.set_1 | apply IsS71.set_2) | exact HI0.out)) : p := h
theorem z14_5 {p : Prop} (h : p := by repeat (first | (with_reducible first | exact HB.out | apply bwA | apply pbN | apply bwD | refine bwS ?_ (IsS71.ge HI0.out) | refine bwS ?_ GE277.out) | exact HB.out)) : p := h
theorem z14_4 {p : Prop} (h : p := by repeat (first | (with_reducible first | exact HI0.out | apply IsS71.alloc | apply IsS71.drewN | apply IsS71.drew | apply IsS71.set_1 | apply IsS71.set_2 | refine IsS71.far ?_ NB0_277.out _ | refine IsS71.far ?_ NB0_291.out _) | exact HI0.out)) : p := h
theorem z14_3 {p : Prop} (h : p := by repeat (first | (with_reducible first | exact HK.out | apply KeepBut.set_ | apply keep_drewN | apply keep_drew | apply keep_alloc) | exact HK.out)) : p := h
theorem z14_2 {p : Prop} (h : p := by repeat (first | (with_reducible first | exact HK.out | apply KeepBut.set_ | apply keep_drewN | apply keep_drew | apply keep_alloc | refine keep_far ?_ GW277.out _ | refine keep_far ?_ GW291.out _) | exact HK.out)) : p := h
theorem z14_1 {p : Prop} (h : p := by repeat (first | (with_reducible first | exact HI0.out | apply IsS71.alloc | apply IsS71.drewN | apply IsS71.drew | apply IsS71.set_1 | apply IsS71.set_2 | refine IsS71.far ?_ NB0_277.out _) | exact HI0.out)) : p := h
theorem z14_0 {p : Prop} (h : p := by repeat (first | (with_reducible first | exact HK.out | apply KeepBut.set_ | apply keep_drewN | apply keep_drew | apply keep_alloc | refine keep_far ?_ GW277.out _) | exact HK.out)) : p := h

/-! ### spec_l1Once: function 45 -/
def spec_l1Once.f (s0_0 : List Int) (s0_1 : Int) (s0_2 : Int) (a1 : Int) : Option (Bool × Int × Int) := (spec_l1Below.f s0_0 s0_1 s0_2 a1).bind fun bt270 => (some ((bt270.1 == 0), bt270.2.1, bt270.2.2))
set_option maxHeartbeats 8000000 in
set_option maxRecDepth 100000 in
theorem spec_l1Once.calls (g : Nat) (s0_0 : List Int) (s0_1 : Int) (s0_2 : Int) (a1 : Int) (r1 : Bool) (r2 : Int) (r3 : Int) (w0 w : World) (hI : IsS71 w0 w g s0_0 s0_1 s0_2) (hB : Below w0.heap.size w0 w) (h : spec_l1Once.f s0_0 s0_1 s0_2 a1 = some (r1, r2, r3)) :
  Calls Tryd.prog 45 #[.pointer (some ⟨g, 0, none⟩), .int .i64 a1] w fun e w' => e = .returned (.bool r1) ∧ IsS71 w0 w' g s0_0 r2 r3 ∧ Below w0.heap.size w0 w' ∧ KeepBut w w' g none := by
 have HI0 := Az.mk hI
 have HK := Az.mk (KeepBut.refl w g none)
 have HL := Az.mk hB.size
 clear hI
 have HW0 := Az.mk hB.size
 have HB := Az.mk hB
 clear hB
 have H : ((spec_l1Below.f s0_0 s0_1 s0_2 a1).bind fun bt270 => (some ((bt270.1 == 0), bt270.2.1, bt270.2.2))) = some (r1, r2, r3) := h
 clear h
 replace H := bez H
 obtain ⟨⟨t270, t271, t272⟩, A3, H⟩ := H
 try dsimp only at H
 simp only [Option.some.injEq, Prod.mk.injEq] at H
 obtain ⟨rfl, rfl, rfl⟩ := H
 go_enter Tryd.func45, Tryd.ntmps45
 go_wp2_with (first | ((with_reducible refine gtC (f := 58) rfl ?_); refine clz Tryd.func58 (some 7) #[.pointer (some ⟨g, 0, none⟩), .int .i64 a1] ?_; (with_reducible refine (spec_l1Below.calls g s0_0 s0_1 s0_2 a1 t270 t271 t272 w0 _ ?side1 ?side2 A3.out).mono ?_); (case side1 => exact z14_6); (case side2 => repeat (first | (with_reducible first | exact HB.out | apply bwA | apply pbN | apply bwD | refine bwS ?_ (IsS71.ge HI0.out)) | exact HB.out)); rintro e w4 ⟨rfl, hi, hb, hk⟩; refine ⟨_, rfl, ?_⟩; replace HK := Az.mk (KeepBut.trans z14_3 hk (.inl rfl)); replace HB := Az.mk (hb); replace HI0 := Az.mk (hi); (try clear hb); (try clear hk); (try clear hi)))
 go_ret
 exact ⟨rq1, by repeat (first | (with_reducible first | exact HI0.out | apply IsS71.alloc | apply IsS71.drewN | apply IsS71.drew | apply IsS71.set_1 | apply IsS71.set_2) | exact HI0.out), by repeat (first | (with_reducible first | exact HB.out | apply bwA | apply pbN | apply bwD | refine bwS ?_ (IsS71.ge HI0.out)) | exact HB.out), by repeat (first | (with_reducible first | exact HK.out | apply KeepBut.set_ | apply keep_drewN | apply keep_drew | apply keep_alloc) | exact HK.out)⟩

/-! ### spec_l1Bit: function 59 -/
def spec_l1Bit.f (a0 : Bool) : Option (Int) := if a0 = true then (some 1) else (some 0)
set_option maxHeartbeats 8000000 in
set_option maxRecDepth 100000 in
theorem spec_l1Bit.calls (a0 : Bool) (r : Int) (w : World) (h : spec_l1Bit.f a0 = some r) :
  Calls Tryd.prog 59 #[.bool a0] w fun e w' => e = .returned (.int .i64 r) ∧ Drawn0 w w' := by
 have H : (if a0 = true then (some 1) else (some 0)) = some r := h
 clear h
 by_cases c2 : a0 = true
 ·subst c2
  rw [if_pos rfl] at H
  obtain rfl := Option.some.inj H
  go_enter Tryd.func59, Tryd.ntmps59
  go_wp2
  go_ret
  exact ⟨by first | rfl | (simp; done) | (simp [*]; done), by repeat (first | exact Drawn0.refl _ | apply Drawn0.step)⟩
 replace c2 := Bool.eq_false_iff.mpr c2
 subst c2
 rw [if_neg (show ¬ (false = true) by decide)] at H
 obtain rfl := Option.some.inj H
 go_enter Tryd.func59, Tryd.ntmps59
 go_wp2
 go_ret
 exact ⟨by first | rfl | (simp; done) | (simp [*]; done), by repeat (first | exact Drawn0.refl _ | apply Drawn0.step)⟩

/-! ### spec_l1PickInt: function 60 -/
def spec_l1PickInt.f (s0_0 : List Int) (s0_1 : Int) (s0_2 : Int) (l1 : List Int) : Option (Int × Int × Int) := (spec_l1Below.f s0_0 s0_1 s0_2 (l1.length : Int)).bind fun bt273 => (if 0 ≤ bt273.1 then (if bt273.1 < (l1.length : Int) then (some (rd l1 bt273.1, bt273.2.1, bt273.2.2)) else (none)) else (none))
set_option maxHeartbeats 8000000 in
set_option maxRecDepth 100000 in
theorem spec_l1PickInt.calls (g : Nat) (s0_0 : List Int) (s0_1 : Int) (s0_2 : Int) (A1 : Option Addr) (c1 : Nat) (l1 : List Int) (r1 : Int) (r2 : Int) (r3 : Int) (w0 w : World) (hI : IsS71 w0 w g s0_0 s0_1 s0_2) (hB : Below w0.heap.size w0 w) (hr1 : Kd.C (Kd.int .i64) w A1 l1.length l1) (hc1 : l1.length ≤ c1) (hf1 : ∀ ad, A1 = some ad → 0 < l1.length → ad.block ≠ g) (h : spec_l1PickInt.f s0_0 s0_1 s0_2 l1 = some (r1, r2, r3)) :
  Calls Tryd.prog 60 #[.pointer (some ⟨g, 0, none⟩), .slice A1 l1.length c1] w fun e w' => e = .returned (.int .i64 r1) ∧ IsS71 w0 w' g s0_0 r2 r3 ∧ Below w0.heap.size w0 w' ∧ KeepBut w w' g none := by
 have HR1 := Az.mk hr1
 have HC1 := Az.mk hc1
 clear hr1 hc1
 have HI0 := Az.mk hI
 have HK := Az.mk (KeepBut.refl w g none)
 have HL := Az.mk hB.size
 clear hI
 have HW0 := Az.mk hB.size
 have HB := Az.mk hB
 clear hB
 have H : ((spec_l1Below.f s0_0 s0_1 s0_2 (l1.length : Int)).bind fun bt273 => (if 0 ≤ bt273.1 then (if bt273.1 < (l1.length : Int) then (some (rd l1 bt273.1, bt273.2.1, bt273.2.2)) else (none)) else (none))) = some (r1, r2, r3) := h
 clear h
 replace H := bez H
 obtain ⟨⟨t273, t274, t275⟩, A3, H⟩ := H
 try dsimp only at H
 by_cases c4 : 0 ≤ t273
 rotate_left
 ·rw [if_neg c4] at H
  exact absurd H (by simp)
 rw [if_pos c4] at H
 have c4b0 : decide (0 ≤ t273) = true := decide_eq_true c4
 clear c4
 by_cases c5 : t273 < (l1.length : Int)
 rotate_left
 ·rw [if_neg c5] at H
  exact absurd H (by simp)
 rw [if_pos c5] at H
 have c5b0 : decide (t273 < (l1.length : Int)) = true := decide_eq_true c5
 clear c5
 simp only [Option.some.injEq, Prod.mk.injEq] at H
 obtain ⟨rfl, rfl, rfl⟩ := H
 go_enter Tryd.func60, Tryd.ntmps60
 go_wp2_with (first | ((with_reducible refine gtC (f := 58) rfl ?_); refine clz Tryd.func58 (some 9) #[.pointer (some ⟨g, 0, none⟩), .int .i64 (l1.length : Int)] ?_; (with_reducible refine (spec_l1Below.calls g s0_0 s0_1 s0_2 (l1.length : Int) t273 t274 t275 w0 _ ?side1 ?side2 A3.out).mono ?_); (case side1 => exact z14_6); (case side2 => repeat (first | (with_reducible first | exact HB.out | apply bwA | apply pbN | apply bwD | refine bwS ?_ (IsS71.ge HI0.out)) | exact HB.out)); rintro e w6 ⟨rfl, hi, hb, hk⟩; refine ⟨_, rfl, ?_⟩; replace HK := Az.mk (KeepBut.trans z14_3 hk (.inl rfl)); replace HB := Az.mk (hb); replace HI0 := Az.mk (hi); (try clear hb); (try clear hk); (try clear hi); have p276 : 0 ≤ (t273 : Int) := of_decide_eq_true (by first | (with_reducible assumption) | assumption); have q276 : t273 < (l1.length : Int) := of_decide_eq_true (by first | (with_reducible assumption) | assumption); obtain ⟨ad276, e276, hx276_0⟩ := Kd.at_int HR1.out t273 p276 q276; cases e276; replace hx276_0 := keep_cell HK.out hx276_0 (by first | (rw [add_block]; exact hf1 _ rfl (by omega)) | exact hf1 _ rfl (by omega) | exact hf1 ad276 rfl (by omega)); replace p276 := eq_true p276; replace q276 := eq_true q276))
 go_ret
 exact ⟨rq1, by repeat (first | (with_reducible first | exact HI0.out | apply IsS71.alloc | apply IsS71.drewN | apply IsS71.drew | apply IsS71.set_1 | apply IsS71.set_2) | exact HI0.out), by repeat (first | (with_reducible first | exact HB.out | apply bwA | apply pbN | apply bwD | refine bwS ?_ (IsS71.ge HI0.out)) | exact HB.out), by repeat (first | (with_reducible first | exact HK.out | apply KeepBut.set_ | apply keep_drewN | apply keep_drew | apply keep_alloc) | exact HK.out)⟩

/-! ### spec_l12Draw: function 40 -/
def spec_l12Draw.f (k : Nat) (s0_0 : List Int) (s0_1 : Int) (s0_2 : Int) : Option (Int × Int × Int × Int) := (spec_l1Below.f s0_0 s0_1 s0_2 25).bind fun bt278 => ((spec_l1Below.f s0_0 bt278.2.1 bt278.2.2 13).bind fun bt281 => ((spec_l1Once.f s0_0 bt281.2.1 bt281.2.2 2).bind fun bt284 => ((spec_l1Bit.f bt284.1).bind fun t287 => ((spec_SlopeOf.f k (wrap64 (bt278.1 - 12)) (wrap64 (bt281.1 + t287))).bind fun bt288 => ((spec_l1Below.f s0_0 bt284.2.1 bt284.2.2 20).bind fun bt292 => (if bt292.1 = 0 then ((spec_l1PickInt.f s0_0 bt292.2.1 bt292.2.2 (([1, (-1), 2, 0] : List Int))).bind fun bt298 => ((spec_l1PickInt.f s0_0 bt298.2.1 bt298.2.2 (([0, (-1), 2, 1001] : List Int))).bind fun bt304 => (some (bt298.1, bt304.1, bt304.2.1, bt304.2.2)))) else (if bt292.1 = 1 then (some (1000, 999, bt292.2.1, bt292.2.2)) else (some (bt288.1, bt288.2.1, bt292.2.1, bt292.2.2)))))))))
theorem spec_l12Draw.mono : ∀ a0 a1 a2 k, LeO (spec_l12Draw.f k a0 a1 a2) (spec_l12Draw.f (k + 1) a0 a1 a2) := by
 intro a0 a1 a2 k
 unfold spec_l12Draw.f
 exact mo_
instance spec_l12Draw.mi {a0 a1 a2 k} : MoO (spec_l12Draw.f k a0 a1 a2) (spec_l12Draw.f (k + 1) a0 a1 a2) := ⟨spec_l12Draw.mono _ _ _ _⟩
set_option maxHeartbeats 8000000 in
set_option maxRecDepth 100000 in
theorem spec_l12Draw.calls (k : Nat) (g : Nat) (s0_0 : List Int) (s0_1 : Int) (s0_2 : Int) (r1 : Int) (r2 : Int) (r3 : Int) (r4 : Int) (w0 w : World) (hI : IsS71 w0 w g s0_0 s0_1 s0_2) (hB : Below w0.heap.size w0 w) (h : spec_l12Draw.f k s0_0 s0_1 s0_2 = some (r1, r2, r3, r4)) :
  Calls Tryd.prog 40 #[.pointer (some ⟨g, 0, none⟩)] w fun e w' => e = .returned (.agg #[.int .i64 r1, .int .i64 r2]) ∧ IsS71 w0 w' g s0_0 r3 r4 ∧ Below w0.heap.size w0 w' ∧ KeepBut w w' g none := by
 have hu35 := Tryd.underlying35
 have HI0 := Az.mk hI
 have HK := Az.mk (KeepBut.refl w g none)
 have HL := Az.mk hB.size
 clear hI
 have HW0 := Az.mk hB.size
 have HB := Az.mk hB
 clear hB
 have H : ((spec_l1Below.f s0_0 s0_1 s0_2 25).bind fun bt278 => ((spec_l1Below.f s0_0 bt278.2.1 bt278.2.2 13).bind fun bt281 => ((spec_l1Once.f s0_0 bt281.2.1 bt281.2.2 2).bind fun bt284 => ((spec_l1Bit.f bt284.1).bind fun t287 => ((spec_SlopeOf.f k (wrap64 (bt278.1 - 12)) (wrap64 (bt281.1 + t287))).bind fun bt288 => ((spec_l1Below.f s0_0 bt284.2.1 bt284.2.2 20).bind fun bt292 => (if bt292.1 = 0 then ((spec_l1PickInt.f s0_0 bt292.2.1 bt292.2.2 (([1, (-1), 2, 0] : List Int))).bind fun bt298 => ((spec_l1PickInt.f s0_0 bt298.2.1 bt298.2.2 (([0, (-1), 2, 1001] : List Int))).bind fun bt304 => (some (bt298.1, bt304.1, bt304.2.1, bt304.2.2)))) else (if bt292.1 = 1 then (some (1000, 999, bt292.2.1, bt292.2.2)) else (some (bt288.1, bt288.2.1, bt292.2.1, bt292.2.2)))))))))) = some (r1, r2, r3, r4) := h
 clear h
 replace H := bez H
 obtain ⟨⟨t278, t279, t280⟩, A2, H⟩ := H
 try dsimp only at H
 replace H := bez H
 obtain ⟨⟨t281, t282, t283⟩, A3, H⟩ := H
 try dsimp only at H
 replace H := bez H
 obtain ⟨⟨t284, t285, t286⟩, A4, H⟩ := H
 try dsimp only at H
 replace H := bez H
 obtain ⟨t287, A5, H⟩ := H
 try dsimp only at H
 replace H := bez H
 obtain ⟨⟨t288, t289, t290⟩, A6, H⟩ := H
 try dsimp only at H
 replace H := bez H
 obtain ⟨⟨t292, t293, t294⟩, A7, H⟩ := H
 try dsimp only at H
 by_cases c8 : t292 = 0
 rotate_left
 ·rw [if_neg c8] at H
  have c8b0 : (t292 == 0) = false := beq_eq_false_iff_ne.mpr c8
  have c8b1 : (t292 != 0) = true := bne_iff_ne.mpr c8
  by_cases c31 : t292 = 1
  rotate_left
  ·rw [if_neg c31] at H
   have c31b0 : (t292 == 1) = false := beq_eq_false_iff_ne.mpr c31
   have c31b1 : (t292 != 1) = true := bne_iff_ne.mpr c31
   simp only [Option.some.injEq, Prod.mk.injEq] at H
   obtain ⟨rfl, rfl, rfl, rfl⟩ := H
   go_enter Tryd.func40, Tryd.ntmps40
   go_wp2_with (first | ((with_reducible refine gtD (N := 2) rfl ?_); refine bx (N := 2) (cs := #[.int .i64 0, .int .i64 0]) (t := 35) ?_; intro gb277 hg w44 hbox hb; replace HB := Az.mk (bwT (by repeat (first | (with_reducible first | exact HB.out | apply bwA | apply pbN | apply bwD | refine bwS ?_ (IsS71.ge HI0.out)) | exact HB.out)) hb); have BK277 := Az.mk (hbox); have GW277 := Az.mk ((by rw [hg]; exact (keep_size (w := w) (g := g) (row := none) z14_3) : w.heap.size ≤ gb277)); have GE277 := Az.mk ((Nat.le_trans HW0.out (by rw [hg]; exact (keep_size (w := w) (g := g) (row := none) z14_3) : w.heap.size ≤ gb277) : w0.heap.size ≤ gb277)); replace HK := Az.mk (KeepBut.trans z14_3 (KeepBut.of_below hb g none) (.inl rfl)); have NB0_277 := Az.mk ((by rw [hg]; exact Nat.ne_of_lt (IsS71.lt (show IsS71 w0 _ g s0_0 s0_1 s0_2 from by repeat (first | (with_reducible first | exact HI0.out | apply IsS71.alloc | apply IsS71.drewN | apply IsS71.drew | apply IsS71.set_1 | apply IsS71.set_2) | exact HI0.out))) : g ≠ gb277)); have NB277_0 := Az.mk ((by rw [hg]; exact Nat.ne_of_gt (IsS71.lt (show IsS71 w0 _ g s0_0 s0_1 s0_2 from by repeat (first | (with_reducible first | exact HI0.out | apply IsS71.alloc | apply IsS71.drewN | apply IsS71.drew | apply IsS71.set_1 | apply IsS71.set_2) | exact HI0.out))) : gb277 ≠ g)); replace HI0 := Az.mk (IsS71.below z14_6 hb); clear hb hbox hg) | ((with_reducible refine gtC (f := 58) rfl ?_); refine clz Tryd.func58 (some 7) #[.pointer (some ⟨g, 0, none⟩), .int .i64 25] ?_; (with_reducible refine (spec_l1Below.calls g s0_0 s0_1 s0_2 25 t278 t279 t280 w0 _ ?side1 ?side2 A2.out).mono ?_); (case side1 => exact z14_1); (case side2 => repeat (first | (with_reducible first | exact HB.out | apply bwA | apply pbN | apply bwD | refine bwS ?_ (IsS71.ge HI0.out) | refine bwS ?_ GE277.out) | exact HB.out)); rintro e w45 ⟨rfl, hi, hb, hk⟩; refine ⟨_, rfl, ?_⟩; replace BK277 := bkk BK277 hk NB277_0; replace HK := Az.mk (KeepBut.trans z14_0 hk (.inl rfl)); replace HB := Az.mk (hb); replace HI0 := Az.mk (hi); (try clear hb); (try clear hk); (try clear hi)) | ((with_reducible refine gtC (f := 58) rfl ?_); refine clz Tryd.func58 (some 10) #[.pointer (some ⟨g, 0, none⟩), .int .i64 13] ?_; (with_reducible refine (spec_l1Below.calls g s0_0 t279 t280 13 t281 t282 t283 w0 _ ?side1 ?side2 A3.out).mono ?_); (case side1 => exact z14_1); (case side2 => repeat (first | (with_reducible first | exact HB.out | apply bwA | apply pbN | apply bwD | refine bwS ?_ (IsS71.ge HI0.out) | refine bwS ?_ GE277.out) | exact HB.out)); rintro e w46 ⟨rfl, hi, hb, hk⟩; refine ⟨_, rfl, ?_⟩; replace BK277 := bkk BK277 hk NB277_0; replace HK := Az.mk (KeepBut.trans z14_0 hk (.inl rfl)); replace HB := Az.mk (hb); replace HI0 := Az.mk (hi); (try clear hb); (try clear hk); (try clear hi)) | ((with_reducible refine gtC (f := 45) rfl ?_); refine clz Tryd.func45 (some 12) #[.pointer (some ⟨g, 0, none⟩), .int .i64 2] ?_; (with_reducible refine (spec_l1Once.calls g s0_0 t282 t283 2 t284 t285 t286 w0 _ ?side1 ?side2 A4.out).mono ?_); (case side1 => exact z14_1); (case side2 => repeat (first | (with_reducible first | exact HB.out | apply bwA | apply pbN | apply bwD | refine bwS ?_ (IsS71.ge HI0.out) | refine bwS ?_ GE277.out) | exact HB.out)); rintro e w47 ⟨rfl, hi, hb, hk⟩; refine ⟨_, rfl, ?_⟩; replace BK277 := bkk BK277 hk NB277_0; replace HK := Az.mk (KeepBut.trans z14_0 hk (.inl rfl)); replace HB := Az.mk (hb); replace HI0 := Az.mk (hi); (try clear hb); (try clear hk); (try clear hi)) | ((with_reducible refine gtC (f := 59) rfl ?_); refine clz Tryd.func59 (some 13) #[.bool t284] ?_; (with_reducible refine (spec_l1Bit.calls t284 t287 _ A5.out).mono ?_); rintro e w' ⟨rfl, ⟨nd, rfl⟩⟩; refine ⟨_, rfl, ?_⟩; (try (rw [drewN_self w47]; generalize hq_ : World.drewN w47 _ = w47; have n0_ : Az (w47.heap[gb277]? = some (.cells #[.int .i64 0, .int .i64 0] 35 (0, 0))) := ⟨by rw [← hq_]; exact (bk1 BK277)⟩; have n1_ : Az (IsS71 w0 w47 g s0_0 t285 t286) := ⟨by rw [← hq_]; exact z14_1⟩; have n2_ : Az (KeepBut w w47 g none) := ⟨by rw [← hq_]; exact z14_0⟩; have n3_ : Az (Below w0.heap.size w0 w47) := ⟨by rw [← hq_]; exact z14_5⟩; clear BK277 HI0 HK HB hq_; have BK277 := n0_; have HI0 := n1_; have HK := n2_; have HB := n3_; clear n0_ n1_ n2_ n3_))) | ((with_reducible refine gtC (f := 44) rfl ?_); refine clz Tryd.func44 (some 15) #[.int .i64 (wrap64 (t278 - 12)), .int .i64 (wrap64 (t281 + t287))] ?_; (with_reducible refine (spec_SlopeOf.calls k (wrap64 (t278 - 12)) (wrap64 (t281 + t287)) t288 t289 t290 _ A6.out).mono ?_); rintro e w48 ⟨rfl, hb⟩; refine ⟨_, rfl, ?_⟩; replace BK277 := bkz BK277 hb; replace HK := Az.mk (KeepBut.trans z14_0 (KeepBut.of_below hb g none) (.inl rfl)); replace HB := Az.mk (bwT z14_5 hb); replace HI0 := Az.mk (IsS71.below z14_1 hb); (try clear hb)) | ((with_reducible refine gtD (N := 3) rfl ?_); refine bx (N := 3) (cs := #[.int .i64 0, .int .i64 0]) (t := 35) ?_; intro gb291 hg w49 hbox hb; replace HB := Az.mk (bwT z14_5 hb); have BK291 := Az.mk (hbox); have GW291 := Az.mk ((by rw [hg]; exact (keep_size (w := w) (g := g) (row := none) z14_0) : w.heap.size ≤ gb291)); have GE291 := Az.mk ((Nat.le_trans HW0.out (by rw [hg]; exact (keep_size (w := w) (g := g) (row := none) z14_0) : w.heap.size ≤ gb291) : w0.heap.size ≤ gb291)); replace HK := Az.mk (KeepBut.trans z14_0 (KeepBut.of_below hb g none) (.inl rfl)); have NB277_291 := nlt BK277 hg; have NB291_277 := ngt BK277 hg; replace BK277 := bkz BK277 hb; have NB0_291 := Az.mk ((by rw [hg]; exact Nat.ne_of_lt (IsS71.lt (show IsS71 w0 _ g s0_0 t285 t286 from by repeat (first | (with_reducible first | exact HI0.out | apply IsS71.alloc | apply IsS71.drewN | apply IsS71.drew | apply IsS71.set_1 | apply IsS71.set_2 | refine IsS71.far ?_ NB0_277.out _) | exact HI0.out))) : g ≠ gb291)); have NB291_0 := Az.mk ((by rw [hg]; exact Nat.ne_of_gt (IsS71.lt (show IsS71 w0 _ g s0_0 t285 t286 from by repeat (first | (with_reducible first | exact HI0.out | apply IsS71.alloc | apply IsS71.drewN | apply IsS71.drew | apply IsS71.set_1 | apply IsS71.set_2 | refine IsS71.far ?_ NB0_277.out _) | exact HI0.out))) : gb291 ≠ g)); replace HI0 := Az.mk (IsS71.below z14_1 hb); clear hb hbox hg; have hnb50 := NB291_277.out; have hnc50 := NB277_291.out; have hnb51 := NB291_0.out; have hnc51 := NB0_291.out; obtain ⟨hcz52_0, hcz52_1, hfz52_0, hfz52_1⟩ := bq2 BK291) | ((with_reducible refine gtC (f := 58) rfl ?_); refine clz Tryd.func58 (some 19) #[.pointer (some ⟨g, 0, none⟩), .int .i64 20] ?_; (with_reducible refine (spec_l1Below.calls g s0_0 t285 t286 20 t292 t293 t294 w0 _ ?side1 ?side2 A7.out).mono ?_); (case side1 => exact z14_4); (case side2 => repeat (first | (with_reducible first | exact HB.out | apply bwA | apply pbN | apply bwD | refine bwS ?_ (IsS71.ge HI0.out) | refine bwS ?_ GE277.out | refine bwS ?_ GE291.out) | exact HB.out)); rintro e w53 ⟨rfl, hi, hb, hk⟩; refine ⟨_, rfl, ?_⟩; replace BK277 := Az.mk (KeepBut.blk hk (g' := gb277) (o := .cells #[.int .i64 0, .int .i64 0] 35 (0, 0)) bkv NB277_0.out (by simp)); replace BK291 := Az.mk (KeepBut.blk hk (g' := gb291) (o := .cells #[.int .i64 t288, .int .i64 t289] 35 (0, 0)) bkv NB291_0.out (by simp)); replace HK := Az.mk (KeepBut.trans z14_2 hk (.inl rfl)); replace HB := Az.mk (hb); replace HI0 := Az.mk (hi); (try clear hb); (try clear hk); (try clear hi); obtain ⟨hcz54_0, hcz54_1, hfz54_0, hfz54_1⟩ := bq2 BK291; have hnb55 := NB277_0.out; have hnc55 := NB0_277.out; obtain ⟨hcz56_0, hcz56_1, hfz56_0, hfz56_1⟩ := bq2 BK277))
   refine bodyPost_ret (results_cell_row rfl _ _ gb277 35 #[.int .i64 t288, .int .i64 t289] (0, 0) _ rfl bkv Tryd.underlying35 rfl (by kernel_rfl)) rfl ?_
   exact ⟨rq1, by repeat (first | (with_reducible first | exact HI0.out | apply IsS71.alloc | apply IsS71.drewN | apply IsS71.drew | apply IsS71.set_1 | apply IsS71.set_2 | refine IsS71.far ?_ NB0_277.out _ | refine IsS71.far ?_ NB0_291.out _) | exact HI0.out), by repeat (first | (with_reducible first | exact HB.out | apply bwA | apply pbN | apply bwD | refine bwS ?_ (IsS71.ge HI0.out) | refine bwS ?_ GE277.out | refine bwS ?_ GE291.out) | exact HB.out), by repeat (first | (with_reducible first | exact HK.out | apply KeepBut.set_ | apply keep_drewN | apply keep_drew | apply keep_alloc | refine keep_far ?_ GW277.out _ | refine keep_far ?_ GW291.out _) | exact HK.out)⟩
  rw [if_pos c31] at H
  have c31b0 : (t292 == 1) = true := beq_iff_eq.mpr c31
  have c31b1 : (t292 != 1) = false := bne_eq_false_iff_eq.mpr c31
  clear c31
  simp only [Option.some.injEq, Prod.mk.injEq] at H
  obtain ⟨rfl, rfl, rfl, rfl⟩ := H
  go_enter Tryd.func40, Tryd.ntmps40
  go_wp2_with (first | ((with_reducible refine gtD (N := 2) rfl ?_); refine bx (N := 2) (cs := #[.int .i64 0, .int .i64 0]) (t := 35) ?_; intro gb277 hg w32 hbox hb; replace HB := Az.mk (bwT (by repeat (first | (with_reducible first | exact HB.out | apply bwA | apply pbN | apply bwD | refine bwS ?_ (IsS71.ge HI0.out)) | exact HB.out)) hb); have BK277 := Az.mk (hbox); have GW277 := Az.mk ((by rw [hg]; exact (keep_size (w := w) (g := g) (row := none) z14_3) : w.heap.size ≤ gb277)); have GE277 := Az.mk ((Nat.le_trans HW0.out (by rw [hg]; exact (keep_size (w := w) (g := g) (row := none) z14_3) : w.heap.size ≤ gb277) : w0.heap.size ≤ gb277)); replace HK := Az.mk (KeepBut.trans z14_3 (KeepBut.of_below hb g none) (.inl rfl)); have NB0_277 := Az.mk ((by rw [hg]; exact Nat.ne_of_lt (IsS71.lt (show IsS71 w0 _ g s0_0 s0_1 s0_2 from by repeat (first | (with_reducible first | exact HI0.out | apply IsS71.alloc | apply IsS71.drewN | apply IsS71.drew | apply IsS71.set_1 | apply IsS71.set_2) | exact HI0.out))) : g ≠ gb277)); have NB277_0 := Az.mk ((by rw [hg]; exact Nat.ne_of_gt (IsS71.lt (show IsS71 w0 _ g s0_0 s0_1 s0_2 from by repeat (first | (with_reducible first | exact HI0.out | apply IsS71.alloc | apply IsS71.drewN | apply IsS71.drew | apply IsS71.set_1 | apply IsS71.set_2) | exact HI0.out))) : gb277 ≠ g)); replace HI0 := Az.mk (IsS71.below z14_6 hb); clear hb hbox hg) | ((with_reducible refine gtC (f := 58) rfl ?_); refine clz Tryd.func58 (some 7) #[.pointer (some ⟨g, 0, none⟩), .int .i64 25] ?_; (with_reducible refine (spec_l1Below.calls g s0_0 s0_1 s0_2 25 t278 t279 t280 w0 _ ?side1 ?side2 A2.out).mono ?_); (case side1 => exact z14_1); (case side2 => repeat (first | (with_reducible first | exact HB.out | apply bwA | apply pbN | apply bwD | refine bwS ?_ (IsS71.ge HI0.out) | refine bwS ?_ GE277.out) | exact HB.out)); rintro e w33 ⟨rfl, hi, hb, hk⟩; refine ⟨_, rfl, ?_⟩; replace BK277 := bkk BK277 hk NB277_0; replace HK := Az.mk (KeepBut.trans z14_0 hk (.inl rfl)); replace HB := Az.mk (hb); replace HI0 := Az.mk (hi); (try clear hb); (try clear hk); (try clear hi)) | ((with_reducible refine gtC (f := 58) rfl ?_); refine clz Tryd.func58 (some 10) #[.pointer (some ⟨g, 0, none⟩), .int .i64 13] ?_; (with_reducible refine (spec_l1Below.calls g s0_0 t279 t280 13 t281 t282 t283 w0 _ ?side1 ?side2 A3.out).mono ?_); (case side1 => exact z14_1); (case side2 => repeat (first | (with_reducible first | exact HB.out | apply bwA | apply pbN | apply bwD | refine bwS ?_ (IsS71.ge HI0.out) | refine bwS ?_ GE277.out) | exact HB.out)); rintro e w34 ⟨rfl, hi, hb, hk⟩; refine ⟨_, rfl, ?_⟩; replace BK277 := bkk BK277 hk NB277_0; replace HK := Az.mk (KeepBut.trans z14_0 hk (.inl rfl)); replace HB := Az.mk (hb); replace HI0 := Az.mk (hi); (try clear hb); (try clear hk); (try clear hi)) | ((with_reducible refine gtC (f := 45) rfl ?_); refine clz Tryd.func45 (some 12) #[.pointer (some ⟨g, 0, none⟩), .int .i64 2] ?_; (with_reducible refine (spec_l1Once.calls g s0_0 t282 t283 2 t284 t285 t286 w0 _ ?side1 ?side2 A4.out).mono ?_); (case side1 => exact z14_1); (case side2 => repeat (first | (with_reducible first | exact HB.out | apply bwA | apply pbN | apply bwD | refine bwS ?_ (IsS71.ge HI0.out) | refine bwS ?_ GE277.out) | exact HB.out)); rintro e w35 ⟨rfl, hi, hb, hk⟩; refine ⟨_, rfl, ?_⟩; replace BK277 := bkk BK277 hk NB277_0; replace HK := Az.mk (KeepBut.trans z14_0 hk (.inl rfl)); replace HB := Az.mk (hb); replace HI0 := Az.mk (hi); (try clear hb); (try clear hk); (try clear hi)) | ((with_reducible refine gtC (f := 59) rfl ?_); refine clz Tryd.func59 (some 13) #[.bool t284] ?_; (with_reducible refine (spec_l1Bit.calls t284 t287 _ A5.out).mono ?_); rintro e w' ⟨rfl, ⟨nd, rfl⟩⟩; refine ⟨_, rfl, ?_⟩; (try (rw [drewN_self w35]; generalize hq_ : World.drewN w35 _ = w35; have n0_ : Az (w35.heap[gb277]? = some (.cells #[.int .i64 0, .int .i64 0] 35 (0, 0))) := ⟨by rw [← hq_]; exact (bk1 BK277)⟩; have n1_ : Az (IsS71 w0 w35 g s0_0 t285 t286) := ⟨by rw [← hq_]; exact z14_1⟩; have n2_ : Az (KeepBut w w35 g none) := ⟨by rw [← hq_]; exact z14_0⟩; have n3_ : Az (Below w0.heap.size w0 w35) := ⟨by rw [← hq_]; exact z14_5⟩; clear BK277 HI0 HK HB hq_; have BK277 := n0_; have HI0 := n1_; have HK := n2_; have HB := n3_; clear n0_ n1_ n2_ n3_))) | ((with_reducible refine gtC (f := 44) rfl ?_); refine clz Tryd.func44 (some 15) #[.int .i64 (wrap64 (t278 - 12)), .int .i64 (wrap64 (t281 + t287))] ?_; (with_reducible refine (spec_SlopeOf.calls k (wrap64 (t278 - 12)) (wrap64 (t281 + t287)) t288 t289 t290 _ A6.out).mono ?_); rintro e w36 ⟨rfl, hb⟩; refine ⟨_, rfl, ?_⟩; replace BK277 := bkz BK277 hb; replace HK := Az.mk (KeepBut.trans z14_0 (KeepBut.of_below hb g none) (.inl rfl)); replace HB := Az.mk (bwT z14_5 hb); replace HI0 := Az.mk (IsS71.below z14_1 hb); (try clear hb)) | ((with_reducible refine gtD (N := 3) rfl ?_); refine bx (N := 3) (cs := #[.int .i64 0, .int .i64 0]) (t := 35) ?_; intro gb291 hg w37 hbox hb; replace HB := Az.mk (bwT z14_5 hb); have BK291 := Az.mk (hbox); have GW291 := Az.mk ((by rw [hg]; exact (keep_size (w := w) (g := g) (row := none) z14_0) : w.heap.size ≤ gb291)); have GE291 := Az.mk ((Nat.le_trans HW0.out (by rw [hg]; exact (keep_size (w := w) (g := g) (row := none) z14_0) : w.heap.size ≤ gb291) : w0.heap.size ≤ gb291)); replace HK := Az.mk (KeepBut.trans z14_0 (KeepBut.of_below hb g none) (.inl rfl)); have NB277_291 := nlt BK277 hg; have NB291_277 := ngt BK277 hg; replace BK277 := bkz BK277 hb; have NB0_291 := Az.mk ((by rw [hg]; exact Nat.ne_of_lt (IsS71.lt (show IsS71 w0 _ g s0_0 t285 t286 from by repeat (first | (with_reducible first | exact HI0.out | apply IsS71.alloc | apply IsS71.drewN | apply IsS71.drew | apply IsS71.set_1 | apply IsS71.set_2 | refine IsS71.far ?_ NB0_277.out _) | exact HI0.out))) : g ≠ gb291)); have NB291_0 := Az.mk ((by rw [hg]; exact Nat.ne_of_gt (IsS71.lt (show IsS71 w0 _ g s0_0 t285 t286 from by repeat (first | (with_reducible first | exact HI0.out | apply IsS71.alloc | apply IsS71.drewN | apply IsS71.drew | apply IsS71.set_1 | apply IsS71.set_2 | refine IsS71.far ?_ NB0_277.out _) | exact HI0.out))) : gb291 ≠ g)); replace HI0 := Az.mk (IsS71.below z14_1 hb); clear hb hbox hg; have hnb38 := NB291_277.out; have hnc38 := NB277_291.out; have hnb39 := NB291_0.out; have hnc39 := NB0_291.out; obtain ⟨hcz40_0, hcz40_1, hfz40_0, hfz40_1⟩ := bq2 BK291) | ((with_reducible refine gtC (f := 58) rfl ?_); refine clz Tryd.func58 (some 19) #[.pointer (some ⟨g, 0, none⟩), .int .i64 20] ?_; (with_reducible refine (spec_l1Below.calls g s0_0 t285 t286 20 t292 t293 t294 w0 _ ?side1 ?side2 A7.out).mono ?_); (case side1 => exact z14_4); (case side2 => repeat (first | (with_reducible first | exact HB.out | apply bwA | apply pbN | apply bwD | refine bwS ?_ (IsS71.ge HI0.out) | refine bwS ?_ GE277.out | refine bwS ?_ GE291.out) | exact HB.out)); rintro e w41 ⟨rfl, hi, hb, hk⟩; refine ⟨_, rfl, ?_⟩; replace BK277 := Az.mk (KeepBut.blk hk (g' := gb277) (o := .cells #[.int .i64 0, .int .i64 0] 35 (0, 0)) bkv NB277_0.out (by simp)); replace BK291 := Az.mk (KeepBut.blk hk (g' := gb291) (o := .cells #[.int .i64 t288, .int .i64 t289] 35 (0, 0)) bkv NB291_0.out (by simp)); replace HK := Az.mk (KeepBut.trans z14_2 hk (.inl rfl)); replace HB := Az.mk (hb); replace HI0 := Az.mk (hi); (try clear hb); (try clear hk); (try clear hi); have hnb42 := NB277_0.out; have hnc42 := NB0_277.out; obtain ⟨hcz43_0, hcz43_1, hfz43_0, hfz43_1⟩ := bq2 BK277))
  refine bodyPost_ret (results_cell_row rfl _ _ gb277 35 #[.int .i64 1000, .int .i64 999] (0, 0) _ rfl bkv Tryd.underlying35 rfl (by kernel_rfl)) rfl ?_
  exact ⟨rq1, by repeat (first | (with_reducible first | exact HI0.out | apply IsS71.alloc | apply IsS71.drewN | apply IsS71.drew | apply IsS71.set_1 | apply IsS71.set_2 | refine IsS71.far ?_ NB0_277.out _ | refine IsS71.far ?_ NB0_291.out _) | exact HI0.out), by repeat (first | (with_reducible first | exact HB.out | apply bwA | apply pbN | apply bwD | refine bwS ?_ (IsS71.ge HI0.out) | refine bwS ?_ GE277.out | refine bwS ?_ GE291.out) | exact HB.out), by repeat (first | (with_reducible first | exact HK.out | apply KeepBut.set_ | apply keep_drewN | apply keep_drew | apply keep_alloc | refine keep_far ?_ GW277.out _ | refine keep_far ?_ GW291.out _) | exact HK.out)⟩
 rw [if_pos c8] at H
 have c8b0 : (t292 == 0) = true := beq_iff_eq.mpr c8
 have c8b1 : (t292 != 0) = false := bne_eq_false_iff_eq.mpr c8
 clear c8
 obtain ⟨y295, hy295⟩ : ∃ y_ : List Int, y_ = (([1, (-1), 2, 0] : List Int)) := ⟨_, rfl⟩
 replace H : ((spec_l1PickInt.f s0_0 t293 t294 y295).bind fun bt298 => ((spec_l1PickInt.f s0_0 bt298.2.1 bt298.2.2 (([0, (-1), 2, 1001] : List Int))).bind fun bt304 => (some (bt298.1, bt304.1, bt304.2.1, bt304.2.2)))) = some (r1, r2, r3, r4) := by first | (rw [hy295]; with_reducible exact H) | (have H2_ := (Option.bind_some _ _).symm.trans H; rw [hy295]; with_reducible exact H2_) | (have H2_ := (Option.bind_some _ _).symm.trans H; with_reducible exact H2_) | with_reducible exact H | (rw [hy295]; exact H) | exact H
 have Ny295 := Az.mk hy295
 clear hy295
 replace H := bez H
 obtain ⟨⟨t298, t299, t300⟩, A9, H⟩ := H
 try dsimp only at H
 obtain ⟨y301, hy301⟩ : ∃ y_ : List Int, y_ = (([0, (-1), 2, 1001] : List Int)) := ⟨_, rfl⟩
 replace H : ((spec_l1PickInt.f s0_0 t299 t300 y301).bind fun bt304 => (some (t298, bt304.1, bt304.2.1, bt304.2.2))) = some (r1, r2, r3, r4) := by first | (rw [hy301]; with_reducible exact H) | (have H2_ := (Option.bind_some _ _).symm.trans H; rw [hy301]; with_reducible exact H2_) | (have H2_ := (Option.bind_some _ _).symm.trans H; with_reducible exact H2_) | with_reducible exact H | (rw [hy301]; exact H) | exact H
 have Ny301 := Az.mk hy301
 clear hy301
 replace H := bez H
 obtain ⟨⟨t304, t305, t306⟩, A10, H⟩ := H
 try dsimp only at H
 simp only [Option.some.injEq, Prod.mk.injEq] at H
 obtain ⟨rfl, rfl, rfl, rfl⟩ := H
 go_enter Tryd.func40, Tryd.ntmps40
 go_wp2_with (first | ((with_reducible refine gtD (N := 2) rfl ?_); refine bx (N := 2) (cs := #[.int .i64 0, .int .i64 0]) (t := 35) ?_; intro gb277 hg w11 hbox hb; replace HB := Az.mk (bwT (by repeat (first | (with_reducible first | exact HB.out | apply bwA | apply pbN | apply bwD | refine bwS ?_ (IsS71.ge HI0.out)) | exact HB.out)) hb); have BK277 := Az.mk (hbox); have GW277 := Az.mk ((by rw [hg]; exact (keep_size (w := w) (g := g) (row := none) z14_3) : w.heap.size ≤ gb277)); have GE277 := Az.mk ((Nat.le_trans HW0.out (by rw [hg]; exact (keep_size (w := w) (g := g) (row := none) z14_3) : w.heap.size ≤ gb277) : w0.heap.size ≤ gb277)); replace HK := Az.mk (KeepBut.trans z14_3 (KeepBut.of_below hb g none) (.inl rfl)); have NB0_277 := Az.mk ((by rw [hg]; exact Nat.ne_of_lt (IsS71.lt (show IsS71 w0 _ g s0_0 s0_1 s0_2 from by repeat (first | (with_reducible first | exact HI0.out | apply IsS71.alloc | apply IsS71.drewN | apply IsS71.drew | apply IsS71.set_1 | apply IsS71.set_2) | exact HI0.out))) : g ≠ gb277)); have NB277_0 := Az.mk ((by rw [hg]; exact Nat.ne_of_gt (IsS71.lt (show IsS71 w0 _ g s0_0 s0_1 s0_2 from by repeat (first | (with_reducible first | exact HI0.out | apply IsS71.alloc | apply IsS71.drewN | apply IsS71.drew | apply IsS71.set_1 | apply IsS71.set_2) | exact HI0.out))) : gb277 ≠ g)); replace HI0 := Az.mk (IsS71.below z14_6 hb); clear hb hbox hg) | ((with_reducible refine gtC (f := 58) rfl ?_); refine clz Tryd.func58 (some 7) #[.pointer (some ⟨g, 0, none⟩), .int .i64 25] ?_; (with_reducible refine (spec_l1Below.calls g s0_0 s0_1 s0_2 25 t278 t279 t280 w0 _ ?side1 ?side2 A2.out).mono ?_); (case side1 => exact z14_1); (case side2 => repeat (first | (with_reducible first | exact HB.out | apply bwA | apply pbN | apply bwD | refine bwS ?_ (IsS71.ge HI0.out) | refine bwS ?_ GE277.out) | exact HB.out)); rintro e w12 ⟨rfl, hi, hb, hk⟩; refine ⟨_, rfl, ?_⟩; replace BK277 := bkk BK277 hk NB277_0; replace HK := Az.mk (KeepBut.trans z14_0 hk (.inl rfl)); replace HB := Az.mk (hb); replace HI0 := Az.mk (hi); (try clear hb); (try clear hk); (try clear hi)) | ((with_reducible refine gtC (f := 58) rfl ?_); refine clz Tryd.func58 (some 10) #[.pointer (some ⟨g, 0, none⟩), .int .i64 13] ?_; (with_reducible refine (spec_l1Below.calls g s0_0 t279 t280 13 t281 t282 t283 w0 _ ?side1 ?side2 A3.out).mono ?_); (case side1 => exact z14_1); (case side2 => repeat (first | (with_reducible first | exact HB.out | apply bwA | apply pbN | apply bwD | refine bwS ?_ (IsS71.ge HI0.out) | refine bwS ?_ GE277.out) | exact HB.out)); rintro e w13 ⟨rfl, hi, hb, hk⟩; refine ⟨_, rfl, ?_⟩; replace BK277 := bkk BK277 hk NB277_0; replace HK := Az.mk (KeepBut.trans z14_0 hk (.inl rfl)); replace HB := Az.mk (hb); replace HI0 := Az.mk (hi); (try clear hb); (try clear hk); (try clear hi)) | ((with_reducible refine gtC (f := 45) rfl ?_); refine clz Tryd.func45 (some 12) #[.pointer (some ⟨g, 0, none⟩), .int .i64 2] ?_; (with_reducible refine (spec_l1Once.calls g s0_0 t282 t283 2 t284 t285 t286 w0 _ ?side1 ?side2 A4.out).mono ?_); (case side1 => exact z14_1); (case side2 => repeat (first | (with_reducible first | exact HB.out | apply bwA | apply pbN | apply bwD | refine bwS ?_ (IsS71.ge HI0.out) | refine bwS ?_ GE277.out) | exact HB.out)); rintro e w14 ⟨rfl, hi, hb, hk⟩; refine ⟨_, rfl, ?_⟩; replace BK277 := bkk BK277 hk NB277_0; replace HK := Az.mk (KeepBut.trans z14_0 hk (.inl rfl)); replace HB := Az.mk (hb); replace HI0 := Az.mk (hi); (try clear hb); (try clear hk); (try clear hi)) | ((with_reducible refine gtC (f := 59) rfl ?_); refine clz Tryd.func59 (some 13) #[.bool t284] ?_; (with_reducible refine (spec_l1Bit.calls t284 t287 _ A5.out).mono ?_); rintro e w' ⟨rfl, ⟨nd, rfl⟩⟩; refine ⟨_, rfl, ?_⟩; (try (rw [drewN_self w14]; generalize hq_ : World.drewN w14 _ = w14; have n0_ : Az (w14.heap[gb277]? = some (.cells #[.int .i64 0, .int .i64 0] 35 (0, 0))) := ⟨by rw [← hq_]; exact (bk1 BK277)⟩; have n1_ : Az (IsS71 w0 w14 g s0_0 t285 t286) := ⟨by rw [← hq_]; exact z14_1⟩; have n2_ : Az (KeepBut w w14 g none) := ⟨by rw [← hq_]; exact z14_0⟩; have n3_ : Az (Below w0.heap.size w0 w14) := ⟨by rw [← hq_]; exact z14_5⟩; clear BK277 HI0 HK HB hq_; have BK277 := n0_; have HI0 := n1_; have HK := n2_; have HB := n3_; clear n0_ n1_ n2_ n3_))) | ((with_reducible refine gtC (f := 44) rfl ?_); refine clz Tryd.func44 (some 15) #[.int .i64 (wrap64 (t278 - 12)), .int .i64 (wrap64 (t281 + t287))] ?_; (with_reducible refine (spec_SlopeOf.calls k (wrap64 (t278 - 12)) (wrap64 (t281 + t287)) t288 t289 t290 _ A6.out).mono ?_); rintro e w15 ⟨rfl, hb⟩; refine ⟨_, rfl, ?_⟩; replace BK277 := bkz BK277 hb; replace HK := Az.mk (KeepBut.trans z14_0 (KeepBut.of_below hb g none) (.inl rfl)); replace HB := Az.mk (bwT z14_5 hb); replace HI0 := Az.mk (IsS71.below z14_1 hb); (try clear hb)) | ((with_reducible refine gtD (N := 3) rfl ?_); refine bx (N := 3) (cs := #[.int .i64 0, .int .i64 0]) (t := 35) ?_; intro gb291 hg w16 hbox hb; replace HB := Az.mk (bwT z14_5 hb); have BK291 := Az.mk (hbox); have GW291 := Az.mk ((by rw [hg]; exact (keep_size (w := w) (g := g) (row := none) z14_0) : w.heap.size ≤ gb291)); have GE291 := Az.mk ((Nat.le_trans HW0.out (by rw [hg]; exact (keep_size (w := w) (g := g) (row := none) z14_0) : w.heap.size ≤ gb291) : w0.heap.size ≤ gb291)); replace HK := Az.mk (KeepBut.trans z14_0 (KeepBut.of_below hb g none) (.inl rfl)); have NB277_291 := nlt BK277 hg; have NB291_277 := ngt BK277 hg; replace BK277 := bkz BK277 hb; have NB0_291 := Az.mk ((by rw [hg]; exact Nat.ne_of_lt (IsS71.lt (show IsS71 w0 _ g s0_0 t285 t286 from by repeat (first | (with_reducible first | exact HI0.out | apply IsS71.alloc | apply IsS71.drewN | apply IsS71.drew | apply IsS71.set_1 | apply IsS71.set_2 | refine IsS71.far ?_ NB0_277.out _) | exact HI0.out))) : g ≠ gb291)); have NB291_0 := Az.mk ((by rw [hg]; exact Nat.ne_of_gt (IsS71.lt (show IsS71 w0 _ g s0_0 t285 t286 from by repeat (first | (with_reducible first | exact HI0.out | apply IsS71.alloc | apply IsS71.drewN | apply IsS71.drew | apply IsS71.set_1 | apply IsS71.set_2 | refine IsS71.far ?_ NB0_277.out _) | exact HI0.out))) : gb291 ≠ g)); replace HI0 := Az.mk (IsS71.below z14_1 hb); clear hb hbox hg; have hnb17 := NB291_277.out; have hnc17 := NB277_291.out; have hnb18 := NB291_0.out; have hnc18 := NB0_291.out; obtain ⟨hcz19_0, hcz19_1, hfz19_0, hfz19_1⟩ := bq2 BK291) | ((with_reducible refine gtC (f := 58) rfl ?_); refine clz Tryd.func58 (some 19) #[.pointer (some ⟨g, 0, none⟩), .int .i64 20] ?_; (with_reducible refine (spec_l1Below.calls g s0_0 t285 t286 20 t292 t293 t294 w0 _ ?side1 ?side2 A7.out).mono ?_); (case side1 => exact z14_4); (case side2 => repeat (first | (with_reducible first | exact HB.out | apply bwA | apply pbN | apply bwD | refine bwS ?_ (IsS71.ge HI0.out) | refine bwS ?_ GE277.out | refine bwS ?_ GE291.out) | exact HB.out)); rintro e w20 ⟨rfl, hi, hb, hk⟩; refine ⟨_, rfl, ?_⟩; replace BK277 := Az.mk (KeepBut.blk hk (g' := gb277) (o := .cells #[.int .i64 0, .int .i64 0] 35 (0, 0)) bkv NB277_0.out (by simp)); replace BK291 := Az.mk (KeepBut.blk hk (g' := gb291) (o := .cells #[.int .i64 t288, .int .i64 t289] 35 (0, 0)) bkv NB291_0.out (by simp)); replace HK := Az.mk (KeepBut.trans z14_2 hk (.inl rfl)); replace HB := Az.mk (hb); replace HI0 := Az.mk (hi); (try clear hb); (try clear hk); (try clear hi)) | ((with_reducible refine gtD (N := 23) rfl ?_); refine Kd.R_lit (Kd.int .i64) _ 3 ?hg (N := 23) ?hd (xs := ([1, (-1), 2, 0] : List Int)) (inner := [.int .i64 1, .int .i64 (-1), .int .i64 2, .int .i64 0]) (ok := fun _ => True) (okp := fun _ => True) ?hr ?hp (fun _ hk => hk) trivial (Below.refl _ _) (Nat.le_refl _) (by simp) ?_; (case hd => rfl); (case hg => rfl); (case hr => first | (go_simp; done) | (go_simp; rfl)); (case hp => exact (Reps.one (show Kd.M (Kd.int .i64) _ _ _ 1 [.int .i64 1] from rfl) (Reps.one (show Kd.M (Kd.int .i64) _ _ _ (-1) [.int .i64 (-1)] from rfl) (Reps.one (show Kd.M (Kd.int .i64) _ _ _ 2 [.int .i64 2] from rfl) (Reps.one (show Kd.M (Kd.int .i64) _ _ _ 0 [.int .i64 0] from rfl) (Reps.none _ _)))))); intro v296 w21 ho22 hb hg_ hnew_; clear hg_ hnew_; (first | rw [← Ny295.out] at ho22 | (simp only [Int.reduceToNat] at ho22; rw [← Ny295.out] at ho22)); have HO297 := Az.mk (Kd.R_lower ho22 (keep_size (w := w) (g := g) (row := none) z14_2)); replace BK277 := bkz BK277 hb; replace BK291 := bkz BK291 hb; replace HK := Az.mk (KeepBut.trans z14_2 (KeepBut.of_below hb g none) (.inl rfl)); replace HB := Az.mk (bwT (by repeat (first | (with_reducible first | exact HB.out | apply bwA | apply pbN | apply bwD | refine bwS ?_ (IsS71.ge HI0.out) | refine bwS ?_ GE277.out | refine bwS ?_ GE291.out) | exact HB.out)) hb); replace HI0 := Az.mk (IsS71.below z14_4 hb); clear hb ho22; obtain ⟨Ao23, co23, eo23⟩ := Kd.R_slice HO297.out; subst eo23) | ((with_reducible refine gtC (f := 60) rfl ?_); refine clz Tryd.func60 (some 24) #[.pointer (some ⟨g, 0, none⟩), .slice Ao23 y295.length co23] ?_; (with_reducible refine (spec_l1PickInt.calls g s0_0 t293 t294 _ _ y295 t298 t299 t300 w0 _ ?side1 ?side2 ?side3 ?side4 ?side5 A9.out).mono ?_); (case side1 => exact z14_4); (case side2 => repeat (first | (with_reducible first | exact HB.out | apply bwA | apply pbN | apply bwD | refine bwS ?_ (IsS71.ge HI0.out) | refine bwS ?_ GE277.out | refine bwS ?_ GE291.out) | exact HB.out)); (case side3 => repeat (first | exact (Kd.R_reads' HO297.out).2.2 | (with_reducible refine Kd.C_alloc ?_ _) | (with_reducible refine Kd.C_drewN ?_ _) | (with_reducible refine Kd.C_drew ?_))); (case side4 => exact (Kd.R_reads' HO297.out).2.1); (case side5 => exact far_slice (IsS71.own_ne HI0.out HO297.out (by decide))); rintro e w24 ⟨rfl, hi, hb, hk⟩; refine ⟨_, rfl, ?_⟩; replace BK277 := bkk BK277 hk NB277_0; replace BK291 := bkk BK291 hk NB291_0; replace HO297 := Az.mk (Kd.R_mono (Kd.R_keep (IsS71.apart (show IsS71 w0 _ g s0_0 t293 t294 from by repeat (first | (with_reducible first | exact HI0.out | apply IsS71.alloc | apply IsS71.drewN | apply IsS71.drew | apply IsS71.set_1 | apply IsS71.set_2 | refine IsS71.far ?_ NB0_277.out _ | refine IsS71.far ?_ NB0_291.out _) | exact HI0.out)) (by (with_reducible repeat (first | apply Kd.R_alloc | apply Kd.R_drewN | apply Kd.R_drew)); exact HO297.out) (by decide)) hk (fun _ h => h.2)) (fun _ h => h.1)); replace HK := Az.mk (KeepBut.trans z14_2 hk (.inl rfl)); replace HB := Az.mk (hb); replace HI0 := Az.mk (hi); (try clear hb); (try clear hk); (try clear hi)) | ((with_reducible refine gtD (N := 26) rfl ?_); refine Kd.R_lit (Kd.int .i64) _ 3 ?hg (N := 26) ?hd (xs := ([0, (-1), 2, 1001] : List Int)) (inner := [.int .i64 0, .int .i64 (-1), .int .i64 2, .int .i64 1001]) (ok := fun _ => True) (okp := fun _ => True) ?hr ?hp (fun _ hk => hk) trivial (Below.refl _ _) (Nat.le_refl _) (by simp) ?_; (case hd => rfl); (case hg => rfl); (case hr => first | (go_simp; done) | (go_simp; rfl)); (case hp => exact (Reps.one (show Kd.M (Kd.int .i64) _ _ _ 0 [.int .i64 0] from rfl) (Reps.one (show Kd.M (Kd.int .i64) _ _ _ (-1) [.int .i64 (-1)] from rfl) (Reps.one (show Kd.M (Kd.int .i64) _ _ _ 2 [.int .i64 2] from rfl) (Reps.one (show Kd.M (Kd.int .i64) _ _ _ 1001 [.int .i64 1001] from rfl) (Reps.none _ _)))))); intro v302 w25 ho26 hb hg_ hnew_; clear hg_ hnew_; (first | rw [← Ny301.out] at ho26 | (simp only [Int.reduceToNat] at ho26; rw [← Ny301.out] at ho26)); have HO303 := Az.mk (Kd.R_lower (Kd.R_new' ho26 (Kd.R_lt (by (with_reducible repeat (first | apply Kd.R_alloc | apply Kd.R_drewN | apply Kd.R_drew)); exact HO297.out))) (keep_size (w := w) (g := g) (row := none) z14_2)); replace HO297 := Az.mk (Kd.R_elder' (by (with_reducible repeat (first | apply Kd.R_alloc | apply Kd.R_drewN | apply Kd.R_drew)); exact HO297.out) (Kd.R_base ho26) hb); replace BK277 := bkz BK277 hb; replace BK291 := bkz BK291 hb; replace HK := Az.mk (KeepBut.trans z14_2 (KeepBut.of_below hb g none) (.inl rfl)); replace HB := Az.mk (bwT (by repeat (first | (with_reducible first | exact HB.out | apply bwA | apply pbN | apply bwD | refine bwS ?_ (IsS71.ge HI0.out) | refine bwS ?_ GE277.out | refine bwS ?_ GE291.out) | exact HB.out)) hb); replace HI0 := Az.mk (IsS71.below z14_4 hb); clear hb ho26; obtain ⟨Ao27, co27, eo27⟩ := Kd.R_slice HO303.out; subst eo27) | ((with_reducible refine gtC (f := 60) rfl ?_); refine clz Tryd.func60 (some 27) #[.pointer (some ⟨g, 0, none⟩), .slice Ao27 y301.length co27] ?_; (with_reducible refine (spec_l1PickInt.calls g s0_0 t299 t300 _ _ y301 t304 t305 t306 w0 _ ?side1 ?side2 ?side3 ?side4 ?side5 A10.out).mono ?_); (case side1 => exact z14_4); (case side2 => repeat (first | (with_reducible first | exact HB.out | apply bwA | apply pbN | apply bwD | refine bwS ?_ (IsS71.ge HI0.out) | refine bwS ?_ GE277.out | refine bwS ?_ GE291.out) | exact HB.out)); (case side3 => repeat (first | exact (Kd.R_reads' HO303.out).2.2 | (with_reducible refine Kd.C_alloc ?_ _) | (with_reducible refine Kd.C_drewN ?_ _) | (with_reducible refine Kd.C_drew ?_))); (case side4 => exact (Kd.R_reads' HO303.out).2.1); (case side5 => exact far_slice (IsS71.own_ne HI0.out HO303.out (by decide))); rintro e w28 ⟨rfl, hi, hb, hk⟩; refine ⟨_, rfl, ?_⟩; replace BK277 := bkk BK277 hk NB277_0; replace BK291 := bkk BK291 hk NB291_0; replace HO297 := Az.mk (Kd.R_mono (Kd.R_keep (IsS71.apart (show IsS71 w0 _ g s0_0 t299 t300 from by repeat (first | (with_reducible first | exact HI0.out | apply IsS71.alloc | apply IsS71.drewN | apply IsS71.drew | apply IsS71.set_1 | apply IsS71.set_2 | refine IsS71.far ?_ NB0_277.out _ | refine IsS71.far ?_ NB0_291.out _) | exact HI0.out)) (by (with_reducible repeat (first | apply Kd.R_alloc | apply Kd.R_drewN | apply Kd.R_drew)); exact HO297.out) (by decide)) hk (fun _ h => h.2)) (fun _ h => h.1)); replace HO303 := Az.mk (Kd.R_mono (Kd.R_keep (IsS71.apart (show IsS71 w0 _ g s0_0 t299 t300 from by repeat (first | (with_reducible first | exact HI0.out | apply IsS71.alloc | apply IsS71.drewN | apply IsS71.drew | apply IsS71.set_1 | apply IsS71.set_2 | refine IsS71.far ?_ NB0_277.out _ | refine IsS71.far ?_ NB0_291.out _) | exact HI0.out)) (by (with_reducible repeat (first | apply Kd.R_alloc | apply Kd.R_drewN | apply Kd.R_drew)); exact HO303.out) (by decide)) hk (fun _ h => h.2)) (fun _ h => h.1)); replace HK := Az.mk (KeepBut.trans z14_2 hk (.inl rfl)); replace HB := Az.mk (hb); replace HI0 := Az.mk (hi); (try clear hb); (try clear hk); (try clear hi); have hnb29 := NB277_0.out; have hnc29 := NB0_277.out; obtain ⟨hcz30_0, hcz30_1, hfz30_0, hfz30_1⟩ := bq2 BK277))
 refine bodyPost_ret (results_cell_row rfl _ _ gb277 35 #[.int .i64 t298, .int .i64 t304] (0, 0) _ rfl bkv Tryd.underlying35 rfl (by kernel_rfl)) rfl ?_
 exact ⟨rq1, by repeat (first | (with_reducible first | exact HI0.out | apply IsS71.alloc | apply IsS71.drewN | apply IsS71.drew | apply IsS71.set_1 | apply IsS71.set_2 | refine IsS71.far ?_ NB0_277.out _ | refine IsS71.far ?_ NB0_291.out _) | exact HI0.out), by repeat (first | (with_reducible first | exact HB.out | apply bwA | apply pbN | apply bwD | refine bwS ?_ (IsS71.ge HI0.out) | refine bwS ?_ GE277.out | refine bwS ?_ GE291.out) | exact HB.out), by repeat (first | (with_reducible first | exact HK.out | apply KeepBut.set_ | apply keep_drewN | apply keep_drew | apply keep_alloc | refine keep_far ?_ GW277.out _ | refine keep_far ?_ GW291.out _) | exact HK.out)⟩

/-! ### spec_DrawMoveSlope: function 12 -/
def spec_DrawMoveSlope.f (k : Nat) (l0 : List Int) : Option (Int × Int × Int × Int × Int × Int) := (spec_l1New.f k l0).bind fun bt309 => ((spec_l13Draw.f k bt309.1 bt309.2.1 bt309.2.2).bind fun bt313 => ((spec_l12Draw.f k bt309.1 bt313.2.2.2.2.1 bt313.2.2.2.2.2).bind fun bt319 => (some (bt313.1, bt313.2.1, bt313.2.2.1, bt313.2.2.2.1, bt319.1, bt319.2.1))))
theorem spec_DrawMoveSlope.mono : ∀ a0 k, LeO (spec_DrawMoveSlope.f k a0) (spec_DrawMoveSlope.f (k + 1) a0) := by
 intro a0 k
 unfold spec_DrawMoveSlope.f
 exact mo_
instance spec_DrawMoveSlope.mi {a0 k} : MoO (spec_DrawMoveSlope.f k a0) (spec_DrawMoveSlope.f (k + 1) a0) := ⟨spec_DrawMoveSlope.mono _ _⟩
set_option maxHeartbeats 8000000 in
set_option maxRecDepth 100000 in
theorem spec_DrawMoveSlope.calls (k : Nat) (A0 : Option Addr) (c0 : Nat) (l0 : List Int) (r1 : Int) (r2 : Int) (r3 : Int) (r4 : Int) (r5 : Int) (r6 : Int) (w : World) (hr0 : Kd.C (Kd.int .u8) w A0 l0.length l0) (hc0 : l0.length ≤ c0) (h : spec_DrawMoveSlope.f k l0 = some (r1, r2, r3, r4, r5, r6)) :
  Calls Tryd.prog 12 #[.slice A0 l0.length c0] w fun e w' => e = .returned (.tuple #[.agg #[.int .i64 r1, .int .i64 r2, .int .i64 r3, .int .i64 r4], .agg #[.int .i64 r5, .int .i64 r6]]) ∧ Below w.heap.size w w' := by
 have hu25 := Tryd.underlying25
 have hu35 := Tryd.underlying35
 have HR0 := Az.mk hr0
 have HC0 := Az.mk hc0
 clear hr0 hc0
 have HB := Az.mk (Below.refl w.heap.size w)
 have H : ((spec_l1New.f k l0).bind fun bt309 => ((spec_l13Draw.f k bt309.1 bt309.2.1 bt309.2.2).bind fun bt313 => ((spec_l12Draw.f k bt309.1 bt313.2.2.2.2.1 bt313.2.2.2.2.2).bind fun bt319 => (some (bt313.1, bt313.2.1, bt313.2.2.1, bt313.2.2.2.1, bt319.1, bt319.2.1))))) = some (r1, r2, r3, r4, r5, r6) := h
 clear h
 replace H := bez H
 obtain ⟨⟨t309, t310, t311⟩, A2, H⟩ := H
 try dsimp only at H
 replace H := bez H
 obtain ⟨⟨t313, t314, t315, t316, t317, t318⟩, A3, H⟩ := H
 try dsimp only at H
 replace H := bez H
 obtain ⟨⟨t319, t320, t321, t322⟩, A4, H⟩ := H
 try dsimp only at H
 simp only [Option.some.injEq, Prod.mk.injEq] at H
 obtain ⟨rfl, rfl, rfl, rfl, rfl, rfl⟩ := H
 go_enter Tryd.func12, Tryd.ntmps12
 go_wp2_with (first | ((with_reducible refine gtD (N := 2) rfl ?_); refine bx (N := 2) (cs := #[.int .i64 0, .int .i64 0, .int .i64 0, .int .i64 0]) (t := 25) ?_; intro gb307 hg w5 hbox hb; have BK307 := Az.mk (hbox); have GW307 := gwz hg bw_14; have GE307 := gwz hg bw_14; replace HB := Az.mk (bwT bw_14 hb); clear hb hbox hg) | ((with_reducible refine gtD (N := 3) rfl ?_); refine bx (N := 3) (cs := #[.int .i64 0, .int .i64 0]) (t := 35) ?_; intro gb308 hg w6 hbox hb; have BK308 := Az.mk (hbox); have GW308 := gwz hg bw_14; have GE308 := gwz hg bw_14; replace HB := Az.mk (bwT bw_14 hb); have NB307_308 := nlt BK307 hg; have NB308_307 := ngt BK307 hg; replace BK307 := bkz BK307 hb; clear hb hbox hg) | ((with_reducible refine gtC (f := 37) rfl ?_); refine clz Tryd.func37 (some 6) #[.slice A0 l0.length c0] ?_; (with_reducible refine (spec_l1New.calls k _ _ l0 t309 t310 t311 w _ ?side1 ?side2 ?side3 A2.out).mono ?_); (case side1 => exact bw_14); (case side2 => exact HR0.out); (case side3 => exact HC0.out); rintro e w7 ⟨g312, rfl, hi, hb, hb2⟩; refine ⟨_, rfl, ?_⟩; replace HB := Az.mk (hb); have HI312 := Az.mk (hi); have NB312_307 := Az.mk (IsS71.ne_blk hi (bkB (g := gb307) (o := .cells #[.int .i64 0, .int .i64 0, .int .i64 0, .int .i64 0] 25 (0, 0)) (bk1 BK307) hb2) (by decide)); have NB307_312 := Az.mk (Ne.symm (IsS71.ne_blk hi (bkB (g := gb307) (o := .cells #[.int .i64 0, .int .i64 0, .int .i64 0, .int .i64 0] 25 (0, 0)) (bk1 BK307) hb2) (by decide))); replace BK307 := Az.mk (bkB (g := gb307) (o := .cells #[.int .i64 0, .int .i64 0, .int .i64 0, .int .i64 0] 25 (0, 0)) (bk1 BK307) hb2); have NB312_308 := Az.mk (IsS71.ne_blk hi (bkB (g := gb308) (o := .cells #[.int .i64 0, .int .i64 0] 35 (0, 0)) (bk1 BK308) hb2) (by decide)); have NB308_312 := Az.mk (Ne.symm (IsS71.ne_blk hi (bkB (g := gb308) (o := .cells #[.int .i64 0, .int .i64 0] 35 (0, 0)) (bk1 BK308) hb2) (by decide))); replace BK308 := Az.mk (bkB (g := gb308) (o := .cells #[.int .i64 0, .int .i64 0] 35 (0, 0)) (bk1 BK308) hb2); (try clear hb); (try clear hb2); (try clear hi)) | ((with_reducible refine gtC (f := 38) rfl ?_); refine clz Tryd.func38 (some 8) #[.pointer (some ⟨g312, 0, none⟩)] ?_; (with_reducible refine (spec_l13Draw.calls k g312 t309 t310 t311 t313 t314 t315 t316 t317 t318 w _ ?side1 ?side2 A3.out).mono ?_); (case side1 => exact (by repeat (first | (with_reducible first | exact HI312.out | apply IsS71.alloc | apply IsS71.drewN | apply IsS71.drew | apply IsS71.set_1 | apply IsS71.set_2 | refine IsS71.far ?_ NB312_307.out _ | refine IsS71.far ?_ NB312_308.out _) | exact HI312.out))); (case side2 => repeat (first | (with_reducible first | exact HB.out | apply bwA | apply pbN | apply bwD | refine bwS ?_ (IsS71.ge HI312.out) | refine bwS ?_ GE307.out | refine bwS ?_ GE308.out) | exact HB.out)); rintro e w8 ⟨rfl, hi, hb, hk⟩; refine ⟨_, rfl, ?_⟩; replace BK307 := bkk BK307 hk NB307_312; replace BK308 := bkk BK308 hk NB308_312; replace HB := Az.mk (hb); replace HI312 := Az.mk (hi); (try clear hb); (try clear hk); (try clear hi)) | ((with_reducible refine gtC (f := 40) rfl ?_); refine clz Tryd.func40 (some 10) #[.pointer (some ⟨g312, 0, none⟩)] ?_; (with_reducible refine (spec_l12Draw.calls k g312 t309 t317 t318 t319 t320 t321 t322 w _ ?side1 ?side2 A4.out).mono ?_); (case side1 => exact (by repeat (first | (with_reducible first | exact HI312.out | apply IsS71.alloc | apply IsS71.drewN | apply IsS71.drew | apply IsS71.set_1 | apply IsS71.set_2 | refine IsS71.far ?_ NB312_307.out _ | refine IsS71.far ?_ NB312_308.out _) | exact HI312.out))); (case side2 => repeat (first | (with_reducible first | exact HB.out | apply bwA | apply pbN | apply bwD | refine bwS ?_ (IsS71.ge HI312.out) | refine bwS ?_ GE307.out | refine bwS ?_ GE308.out) | exact HB.out)); rintro e w9 ⟨rfl, hi, hb, hk⟩; refine ⟨_, rfl, ?_⟩; replace BK307 := bkk BK307 hk NB307_312; replace BK308 := bkk BK308 hk NB308_312; replace HB := Az.mk (hb); replace HI312 := Az.mk (hi); (try clear hb); (try clear hk); (try clear hi); have hnb10 := NB307_308.out; have hnc10 := NB308_307.out; have hnb11 := NB307_312.out; have hnc11 := NB312_307.out; obtain ⟨hcz12_0, hcz12_1, hcz12_2, hcz12_3, hfz12_0, hfz12_1, hfz12_2, hfz12_3⟩ := bq4 BK307; have hnb13 := NB308_312.out; have hnc13 := NB312_308.out; obtain ⟨hcz14_0, hcz14_1, hfz14_0, hfz14_1⟩ := bq2 BK308))
 refine bodyPost_ret (results_cc rfl _ _ gb307 gb308 25 35 #[.int .i64 t313, .int .i64 t314, .int .i64 t315, .int .i64 t316] #[.int .i64 t319, .int .i64 t320] (0, 0) (0, 0) _ _ rfl bkv Tryd.underlying25 rfl (by kernel_rfl) rfl bkv Tryd.underlying35 rfl (by kernel_rfl)) rfl ?_
 exact ⟨rq1, by repeat (first | (with_reducible first | exact HB.out | apply bwA | apply pbN | apply bwD | refine bwS ?_ (IsS71.ge HI312.out) | refine bwS ?_ GE307.out | refine bwS ?_ GE308.out) | exact HB.out)⟩

/-! ### impl_size: function 70 -/
def impl_size.f (a0 : Int) : Option (Int) := some (mx a0 (wrap64 (-a0)))
set_option maxHeartbeats 8000000 in
set_option maxRecDepth 100000 in
theorem impl_size.calls (a0 : Int) (r : Int) (w : World) (h : impl_size.f a0 = some r) :
  Calls Tryd.prog 70 #[.int .i64 a0] w fun e w' => e = .returned (.int .i64 r) ∧ Below w.heap.size w w' := by
 have HB := Az.mk (Below.refl w.heap.size w)
 have H : (some (mx a0 (wrap64 (-a0)))) = some r := h
 clear h
 obtain ⟨ji2, hji2⟩ : ∃ j_ : Int, (mx a0 (wrap64 (-a0))) = j_ := ⟨_, rfl⟩
 replace H : (some ji2) = some r := by first | (rw [hji2] at H; exact H) | (simp only [hji2] at H ⊢; exact H)
 have hji2_ : (if a0 < (wrap64 (-a0)) then (wrap64 (-a0)) else a0) = ji2 := hji2
 obtain rfl := Option.some.inj H
 go_enter Tryd.func70, Tryd.ntmps70
 go_wp2
 go_ret
 exact ⟨by first | rfl | (simp [eWn, eWs] <;> rfl) | (simp only [← hji2]; first | rfl | (simp [eWn, eWs] <;> rfl)) | (simp [*, eWn, eWs] <;> rfl), bw_14⟩

/-! ### impl_gcd: function 61 -/
def impl_gcd.l0 : Nat → Int → Int → Option (Int)
 | 0, _, _ => none
 | k + 1, x0, x1 => if x1 = 0 then (some x0) else (impl_gcd.l0 k x1 (Int.tmod x0 x1))
def impl_gcd.f (k : Nat) (a0 : Int) (a1 : Int) : Option (Int) := (impl_size.f a0).bind fun t323 => ((impl_size.f a1).bind fun t324 => (impl_gcd.l0 k t323 t324))
theorem impl_gcd.mono_l : ∀ k, (∀ y0 y1, LeO (impl_gcd.l0 k y0 y1) (impl_gcd.l0 (k + 1) y0 y1))
 | 0 => fun _ _ r h => by simp [impl_gcd.l0] at h
 | k + 1 => by
  have ih0 := impl_gcd.mono_l k
  have i0 := fun z0 z1 => MoO.mk (ih0 z0 z1)
  ·intro y0 y1
   unfold impl_gcd.l0
   exact mo_
theorem impl_gcd.mono : ∀ a0 a1 k, LeO (impl_gcd.f k a0 a1) (impl_gcd.f (k + 1) a0 a1) := by
 intro a0 a1 k
 have ih0 := impl_gcd.mono_l k
 have i0 := fun z0 z1 => MoO.mk (ih0 z0 z1)
 unfold impl_gcd.f
 exact mo_
instance impl_gcd.mi {a0 a1 k} : MoO (impl_gcd.f k a0 a1) (impl_gcd.f (k + 1) a0 a1) := ⟨impl_gcd.mono _ _ _⟩
set_option maxHeartbeats 8000000 in
set_option maxRecDepth 100000 in
theorem impl_gcd.calls (k : Nat) (a0 : Int) (a1 : Int) (r : Int) (w : World) (h : impl_gcd.f k a0 a1 = some r) :
  Calls Tryd.prog 61 #[.int .i64 a0, .int .i64 a1] w fun e w' => e = .returned (.int .i64 r) ∧ Below w.heap.size w w' := by
 have HB := Az.mk (Below.refl w.heap.size w)
 have H : ((impl_size.f a0).bind fun t323 => ((impl_size.f a1).bind fun t324 => (impl_gcd.l0 k t323 t324))) = some r := h
 clear h
 replace H := bez H
 obtain ⟨t323, A3, H⟩ := H
 try dsimp only at H
 replace H := bez H
 obtain ⟨t324, A4, H⟩ := H
 try dsimp only at H
 have H' := Az.mk H
 clear H
 go_enter Tryd.func61, Tryd.ntmps61
 go_wp2_with (first | (go_at_call 70; (with_reducible refine (impl_size.calls a0 t323 _ A3.out).mono ?_); rintro e w5 ⟨rfl, hb⟩; replace HB := Az.mk (bwT bw_14 hb); (try clear hb)) | (go_at_call 70; (with_reducible refine (impl_size.calls a1 t324 _ A4.out).mono ?_); rintro e w6 ⟨rfl, hb⟩; replace HB := Az.mk (bwT bw_14 hb); (try clear hb)))
 repeat (go_quiet (fail); try go_wp2_with (first | (go_at_call 70; (with_reducible refine (impl_size.calls a0 t323 _ A3.out).mono ?_); rintro e w5 ⟨rfl, hb⟩; replace HB := Az.mk (bwT bw_14 hb); (try clear hb)) | (go_at_call 70; (with_reducible refine (impl_size.calls a1 t324 _ A4.out).mono ?_); rintro e w6 ⟨rfl, hb⟩; replace HB := Az.mk (bwT bw_14 hb); (try clear hb))))
 go_loopg [0, 1] k (fun kq v0 v1 w' => ∃ (x0_1 : Int) (x1_1 : Int), v0 = .int .i64 x0_1 ∧ v1 = .int .i64 x1_1 ∧ Az (impl_gcd.l0 kq x0_1 x1_1 = some r) ∧ Az (kq ≤ k) ∧ Az (Below w.heap.size w w'))
 case atStart => exact ⟨(t323), (t324), rq2, rq2, H', ⟨Nat.le_refl _⟩, ⟨bw_14⟩⟩
 clear H'
 obtain ⟨x0_1, x1_1, rfl, rfl, HA, HK1, HB⟩ := hrel
 cases gk with
 | zero => exact absurd HA.out (by simp [impl_gcd.l0])
 | succ k1 =>
  have H := HA.out
  clear HA
  simp only [impl_gcd.l0] at H
  by_cases c7 : x1_1 = 0
  ·rw [if_pos c7] at H
   have c7b0 : (x1_1 == 0) = true := beq_iff_eq.mpr c7
   have c7b1 : (x1_1 != 0) = false := bne_eq_false_iff_eq.mpr c7
   clear c7
   obtain rfl := Option.some.inj H
   go_wp2
   repeat (go_quiet (fail); try go_wp2)
   go_ret
   exact ⟨rq1, bw_14⟩
  rw [if_neg c7] at H
  have c7b0 : (x1_1 == 0) = false := beq_eq_false_iff_ne.mpr c7
  have c7b1 : (x1_1 != 0) = true := bne_iff_ne.mpr c7
  have H' := Az.mk H
  clear H
  go_wp2
  repeat (go_quiet (fail); try go_wp2)
  go_roundg k1
  case measure => have := HK1.out; omega
  case rel => exact ⟨(x1_1), (Int.tmod x0_1 x1_1), rq2, rq2, H', ⟨by have := HK1.out; omega⟩, ⟨bw_14⟩⟩

/-! ### impl_IsSlope: function 41 -/
def impl_IsSlope.f (k : Nat) (a0_0 : Int) (a0_1 : Int) : Option (Bool) := (impl_within.f a0_0 (-1000) 1000).bind fun t326 => (if t326 = true then ((impl_within.f a0_1 0 1000).bind fun t327 => (if t327 = true then ((impl_gcd.f k a0_0 a0_1).bind fun t328 => (if t328 = 1 then (if a0_1 > 0 then (some true) else (some (a0_0 == 1))) else (some false))) else (some false))) else (some false))
theorem impl_IsSlope.mono : ∀ a0 a1 k, LeO (impl_IsSlope.f k a0 a1) (impl_IsSlope.f (k + 1) a0 a1) := by
 intro a0 a1 k
 unfold impl_IsSlope.f
 exact mo_
instance impl_IsSlope.mi {a0 a1 k} : MoO (impl_IsSlope.f k a0 a1) (impl_IsSlope.f (k + 1) a0 a1) := ⟨impl_IsSlope.mono _ _ _⟩
set_option maxHeartbeats 8000000 in
set_option maxRecDepth 100000 in
theorem impl_IsSlope.calls (k : Nat) (a0_0 : Int) (a0_1 : Int) (r : Bool) (w : World) (h : impl_IsSlope.f k a0_0 a0_1 = some r) :
  Calls Tryd.prog 41 #[.agg #[.int .i64 a0_0, .int .i64 a0_1]] w fun e w' => e = .returned (.bool r) ∧ Below w.heap.size w w' := by
 have hu35 := Tryd.underlying35
 have HB := Az.mk (Below.refl w.heap.size w)
 have H : ((impl_within.f a0_0 (-1000) 1000).bind fun t326 => (if t326 = true then ((impl_within.f a0_1 0 1000).bind fun t327 => (if t327 = true then ((impl_gcd.f k a0_0 a0_1).bind fun t328 => (if t328 = 1 then (if a0_1 > 0 then (some true) else (some (a0_0 == 1))) else (some false))) else (some false))) else (some false))) = some r := h
 clear h
 replace H := bez H
 obtain ⟨t326, A2, H⟩ := H
 try dsimp only at H
 by_cases c3 : t326 = true
 rotate_left
 ·replace c3 := Bool.eq_false_iff.mpr c3
  subst c3
  rw [if_neg (show ¬ (false = true) by decide)] at H
  obtain rfl := Option.some.inj H
  go_enter Tryd.func41, Tryd.ntmps41
  go_wp2_with (first | ((with_reducible refine gtD (N := 1) rfl ?_); refine bx (N := 1) (cs := #[.int .i64 a0_0, .int .i64 a0_1]) (t := 35) ?_; intro gb325 hg w22 hbox hb; have BK325 := Az.mk (hbox); have GW325 := gwz hg bw_14; have GE325 := gwz hg bw_14; replace HB := Az.mk (bwT bw_14 hb); clear hb hbox hg; obtain ⟨hcz23_0, hcz23_1, hfz23_0, hfz23_1⟩ := bq2 BK325) | ((with_reducible refine gtC (f := 54) rfl ?_); refine clz Tryd.func54 (some 5) #[.int .i64 a0_0, .int .i64 (-1000), .int .i64 1000] ?_; (with_reducible refine (impl_within.calls a0_0 (-1000) 1000 false _ A2.out).mono ?_); rintro e w' ⟨rfl, ⟨nd, rfl⟩⟩; refine ⟨_, rfl, ?_⟩))
  go_ret
  exact ⟨rq1, bw_14⟩
 subst c3
 rw [if_pos rfl] at H
 replace H := bez H
 obtain ⟨t327, A4, H⟩ := H
 try dsimp only at H
 by_cases c5 : t327 = true
 rotate_left
 ·replace c5 := Bool.eq_false_iff.mpr c5
  subst c5
  rw [if_neg (show ¬ (false = true) by decide)] at H
  obtain rfl := Option.some.inj H
  go_enter Tryd.func41, Tryd.ntmps41
  go_wp2_with (first | ((with_reducible refine gtD (N := 1) rfl ?_); refine bx (N := 1) (cs := #[.int .i64 a0_0, .int .i64 a0_1]) (t := 35) ?_; intro gb325 hg w20 hbox hb; have BK325 := Az.mk (hbox); have GW325 := gwz hg bw_14; have GE325 := gwz hg bw_14; replace HB := Az.mk (bwT bw_14 hb); clear hb hbox hg; obtain ⟨hcz21_0, hcz21_1, hfz21_0, hfz21_1⟩ := bq2 BK325) | ((with_reducible refine gtC (f := 54) rfl ?_); refine clz Tryd.func54 (some 5) #[.int .i64 a0_0, .int .i64 (-1000), .int .i64 1000] ?_; (with_reducible refine (impl_within.calls a0_0 (-1000) 1000 true _ A2.out).mono ?_); rintro e w' ⟨rfl, ⟨nd, rfl⟩⟩; refine ⟨_, rfl, ?_⟩) | (go_at_call 54; (with_reducible refine (impl_within.calls a0_1 0 1000 false _ A4.out).mono ?_); rintro e w' ⟨rfl, ⟨nd, rfl⟩⟩))
  go_ret
  exact ⟨rq1, bw_14⟩
 subst c5
 rw [if_pos rfl] at H
 replace H := bez H
 obtain ⟨t328, A6, H⟩ := H
 try dsimp only at H
 by_cases c7 : t328 = 1
 rotate_left
 ·rw [if_neg c7] at H
  have c7b0 : (t328 == 1) = false := beq_eq_false_iff_ne.mpr c7
  have c7b1 : (t328 != 1) = true := bne_iff_ne.mpr c7
  obtain rfl := Option.some.inj H
  go_enter Tryd.func41, Tryd.ntmps41
  go_wp2_with (first | ((with_reducible refine gtD (N := 1) rfl ?_); refine bx (N := 1) (cs := #[.int .i64 a0_0, .int .i64 a0_1]) (t := 35) ?_; intro gb325 hg w17 hbox hb; have BK325 := Az.mk (hbox); have GW325 := gwz hg bw_14; have GE325 := gwz hg bw_14; replace HB := Az.mk (bwT bw_14 hb); clear hb hbox hg; obtain ⟨hcz18_0, hcz18_1, hfz18_0, hfz18_1⟩ := bq2 BK325) | ((with_reducible refine gtC (f := 54) rfl ?_); refine clz Tryd.func54 (some 5) #[.int .i64 a0_0, .int .i64 (-1000), .int .i64 1000] ?_; (with_reducible refine (impl_within.calls a0_0 (-1000) 1000 true _ A2.out).mono ?_); rintro e w' ⟨rfl, ⟨nd, rfl⟩⟩; refine ⟨_, rfl, ?_⟩) | (go_at_call 54; (with_reducible refine (impl_within.calls a0_1 0 1000 true _ A4.out).mono ?_); rintro e w' ⟨rfl, ⟨nd, rfl⟩⟩) | (go_at_call 61; (with_reducible refine (impl_gcd.calls k a0_0 a0_1 t328 _ A6.out).mono ?_); rintro e w19 ⟨rfl, hb⟩; replace BK325 := bkz BK325 hb; replace HB := Az.mk (bwT bw_14 hb); (try clear hb)))
  go_ret
  exact ⟨rq1, bw_14⟩
 rw [if_pos c7] at H
 have c7b0 : (t328 == 1) = true := beq_iff_eq.mpr c7
 have c7b1 : (t328 != 1) = false := bne_eq_false_iff_eq.mpr c7
 clear c7
 by_cases c8 : a0_1 > 0
 ·rw [if_pos c8] at H
  have c8b0 : decide (0 < a0_1) = true := decide_eq_true c8
  clear c8
  obtain rfl := Option.some.inj H
  go_enter Tryd.func41, Tryd.ntmps41
  go_wp2_with (first | ((with_reducible refine gtD (N := 1) rfl ?_); refine bx (N := 1) (cs := #[.int .i64 a0_0, .int .i64 a0_1]) (t := 35) ?_; intro gb325 hg w9 hbox hb; have BK325 := Az.mk (hbox); have GW325 := gwz hg bw_14; have GE325 := gwz hg bw_14; replace HB := Az.mk (bwT bw_14 hb); clear hb hbox hg; obtain ⟨hcz10_0, hcz10_1, hfz10_0, hfz10_1⟩ := bq2 BK325) | ((with_reducible refine gtC (f := 54) rfl ?_); refine clz Tryd.func54 (some 5) #[.int .i64 a0_0, .int .i64 (-1000), .int .i64 1000] ?_; (with_reducible refine (impl_within.calls a0_0 (-1000) 1000 true _ A2.out).mono ?_); rintro e w' ⟨rfl, ⟨nd, rfl⟩⟩; refine ⟨_, rfl, ?_⟩) | (go_at_call 54; (with_reducible refine (impl_within.calls a0_1 0 1000 true _ A4.out).mono ?_); rintro e w' ⟨rfl, ⟨nd, rfl⟩⟩) | (go_at_call 61; (with_reducible refine (impl_gcd.calls k a0_0 a0_1 t328 _ A6.out).mono ?_); rintro e w11 ⟨rfl, hb⟩; replace BK325 := bkz BK325 hb; replace HB := Az.mk (bwT bw_14 hb); (try clear hb); obtain ⟨hcz12_0, hcz12_1, hfz12_0, hfz12_1⟩ := bq2 BK325))
  go_ret
  exact ⟨rq1, bw_14⟩
 rw [if_neg c8] at H
 have c8b0 : decide (0 < a0_1) = false := decide_eq_false c8
 clear c8
 obtain rfl := Option.some.inj H
 go_enter Tryd.func41, Tryd.ntmps41
 go_wp2_with (first | ((with_reducible refine gtD (N := 1) rfl ?_); refine bx (N := 1) (cs := #[.int .i64 a0_0, .int .i64 a0_1]) (t := 35) ?_; intro gb325 hg w13 hbox hb; have BK325 := Az.mk (hbox); have GW325 := gwz hg bw_14; have GE325 := gwz hg bw_14; replace HB := Az.mk (bwT bw_14 hb); clear hb hbox hg; obtain ⟨hcz14_0, hcz14_1, hfz14_0, hfz14_1⟩ := bq2 BK325) | ((with_reducible refine gtC (f := 54) rfl ?_); refine clz Tryd.func54 (some 5) #[.int .i64 a0_0, .int .i64 (-1000), .int .i64 1000] ?_; (with_reducible refine (impl_within.calls a0_0 (-1000) 1000 true _ A2.out).mono ?_); rintro e w' ⟨rfl, ⟨nd, rfl⟩⟩; refine ⟨_, rfl, ?_⟩) | (go_at_call 54; (with_reducible refine (impl_within.calls a0_1 0 1000 true _ A4.out).mono ?_); rintro e w' ⟨rfl, ⟨nd, rfl⟩⟩) | (go_at_call 61; (with_reducible refine (impl_gcd.calls k a0_0 a0_1 t328 _ A6.out).mono ?_); rintro e w15 ⟨rfl, hb⟩; replace BK325 := bkz BK325 hb; replace HB := Az.mk (bwT bw_14 hb); (try clear hb); obtain ⟨hcz16_0, hcz16_1, hfz16_0, hfz16_1⟩ := bq2 BK325))
 go_ret
 exact ⟨rq1, bw_14⟩

end Go.Proofs.YtnoiijdffdpabaaDoor.P
