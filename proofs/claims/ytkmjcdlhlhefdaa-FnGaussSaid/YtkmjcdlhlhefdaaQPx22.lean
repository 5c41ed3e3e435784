-- By this session's driver (wip/tools/mk.py) of the kit's print program, over several statements at once. Not trusted: Lean checks it.
import Derived.Test.YtkmjcdlhlhefdaaQWZip
import Derived.Test.YtkmjcdlhlhefdaaQPx0
import Derived.Test.YtkmjcdlhlhefdaaQPx5
import Derived.Test.YtkmjcdlhlhefdaaQPx8
import Derived.Test.YtkmjcdlhlhefdaaQPx12
import Derived.Test.YtkmjcdlhlhefdaaQPx16
namespace Go.Proofs.Ytkmjcdlhlhefdaa.P
open Go.RowKit Go.Proofs.YtkmjcdlhlhefdaaW.PrintWords Go.Proofs.YtkmjcdlhlhefdaaW.PrintLast Go.Proofs.YtkmjcdlhlhefdaaW.PrintMore
attribute [local go_sem] max2_int min2_int max_two min_two max_three min_three max_four min_four   -- for this text's walks alone
set_option linter.unusedVariables false
set_option linter.unusedSimpArgs false

theorem bw_22 {n : Nat} {v v' : World} (h : Below n v v' := by repeat (first | (with_reducible first | exact HB.out | apply bwA | apply pbN | apply bwD) | exact HB.out)) : Below n v v' := h

theorem ln_22 {P : Prop} (h : P := by (try simp only [List.map_toArray, List.map_cons, List.map_nil]); first | done | rfl | (simp only [List.length_drop, List.length_take]; rfl)) : P := h
open Option renaming bind_eq_some_iff → be

/-! ### impl_AreLinked: function 17 -/
def impl_AreLinked.f (k : Nat) (l0 : List Int) (a1 : Int) (a2 : Int) : Option (Bool) := (impl_IsCrossingWord.f k l0).bind fun t509 => (if t509 = true then (if a1 = a2 then (some false) else ((impl_indexOf.f k l0 a1).bind fun t510 => (if t510 ≥ 0 then ((impl_indexOf.f k l0 a2).bind fun t511 => (if t511 ≥ 0 then ((impl_linked.f k l0 a1 a2).bind fun t512 => (some t512)) else (some false))) else (some false)))) else (some false))
set_option maxHeartbeats 8000000 in
set_option maxRecDepth 100000 in
theorem impl_AreLinked.calls (k : Nat) (A0 : Option Addr) (c0 : Nat) (l0 : List Int) (a1 : Int) (a2 : Int) (r : Bool) (w : World) (hr0 : Kd.C (Kd.int .i64) w A0 l0.length l0) (hc0 : l0.length ≤ c0) (h : impl_AreLinked.f k l0 a1 a2 = some r) :
  Calls Try.prog 17 #[.slice A0 l0.length c0, .int .i64 a1, .int .i64 a2] w fun e w' => e = .returned (.bool r) ∧ Below w.heap.size w w' := by
 have HR0 := Az.mk hr0
 have HC0 := Az.mk hc0
 clear hr0 hc0
 have HB := Az.mk (Below.refl w.heap.size w)
 have H : ((impl_IsCrossingWord.f k l0).bind fun t509 => (if t509 = true then (if a1 = a2 then (some false) else ((impl_indexOf.f k l0 a1).bind fun t510 => (if t510 ≥ 0 then ((impl_indexOf.f k l0 a2).bind fun t511 => (if t511 ≥ 0 then ((impl_linked.f k l0 a1 a2).bind fun t512 => (some t512)) else (some false))) else (some false)))) else (some false))) = some r := h
 clear h
 replace H := bez H
 obtain ⟨t509, A4, H⟩ := H
 try dsimp only at H
 by_cases c5 : t509 = true
 rotate_left
 ·replace c5 := Bool.eq_false_iff.mpr c5
  subst c5
  rw [if_neg ff] at H
  obtain rfl := Option.some.inj H
  go_enter Try.func17, Try.ntmps17
  go_wp2_with (first | ((with_reducible refine gtC (f := 22) rfl ?_); refine clz Try.func22 (some 8) #[.slice A0 l0.length c0] ?_; (with_reducible refine (impl_IsCrossingWord.calls k _ _ l0 false _ ?side1 ?side2 A4.out).mono ?_); (case side1 => exact kC HR0.out); (case side2 => exact HC0.out); rintro e w16 ⟨rfl, hb⟩; refine ⟨_, rfl, ?_⟩; replace HB := Az.mk (bwT bw_22 hb); (try clear hb)))
  go_ret
  exact ⟨rq1, bw_22⟩
 subst c5
 rw [if_pos rfl] at H
 by_cases c6 : a1 = a2
 ·rw [if_pos c6] at H
  have c6b0 : (a1 == a2) = true := beq_iff_eq.mpr c6
  have c6b1 : (a1 != a2) = false := bne_eq_false_iff_eq.mpr c6
  clear c6
  obtain rfl := Option.some.inj H
  go_enter Try.func17, Try.ntmps17
  go_wp2_with (first | ((with_reducible refine gtC (f := 22) rfl ?_); refine clz Try.func22 (some 8) #[.slice A0 l0.length c0] ?_; (with_reducible refine (impl_IsCrossingWord.calls k _ _ l0 true _ ?side1 ?side2 A4.out).mono ?_); (case side1 => exact kC HR0.out); (case side2 => exact HC0.out); rintro e w7 ⟨rfl, hb⟩; refine ⟨_, rfl, ?_⟩; replace HB := Az.mk (bwT bw_22 hb); (try clear hb)))
  go_ret
  exact ⟨rq1, bw_22⟩
 rw [if_neg c6] at H
 have c6b0 : (a1 == a2) = false := beq_eq_false_iff_ne.mpr c6
 have c6b1 : (a1 != a2) = true := bne_iff_ne.mpr c6
 replace H := bez H
 obtain ⟨t510, A8, H⟩ := H
 try dsimp only at H
 by_cases c9 : t510 ≥ 0
 rotate_left
 ·rw [if_neg c9] at H
  have c9b0 : decide (0 ≤ t510) = false := decide_eq_false c9
  clear c9
  obtain rfl := Option.some.inj H
  go_enter Try.func17, Try.ntmps17
  go_wp2_with (first | ((with_reducible refine gtC (f := 22) rfl ?_); refine clz Try.func22 (some 8) #[.slice A0 l0.length c0] ?_; (with_reducible refine (impl_IsCrossingWord.calls k _ _ l0 true _ ?side1 ?side2 A4.out).mono ?_); (case side1 => exact kC HR0.out); (case side2 => exact HC0.out); rintro e w15 ⟨rfl, hb⟩; refine ⟨_, rfl, ?_⟩; replace HB := Az.mk (bwT bw_22 hb); (try clear hb)) | (go_at_call 39; (with_reducible refine (impl_indexOf.calls k _ _ l0 a1 t510 _ ?side1 ?side2 A8.out).mono ?_); (case side1 => exact kC (Kd.C_below HR0.out HB.out)); (case side2 => exact HC0.out); rintro e w' ⟨rfl, ⟨nd, rfl⟩⟩))
  go_ret
  exact ⟨rq1, bw_22⟩
 rw [if_pos c9] at H
 have c9b0 : decide (0 ≤ t510) = true := decide_eq_true c9
 clear c9
 replace H := bez H
 obtain ⟨t511, A10, H⟩ := H
 try dsimp only at H
 by_cases c11 : t511 ≥ 0
 rotate_left
 ·rw [if_neg c11] at H
  have c11b0 : decide (0 ≤ t511) = false := decide_eq_false c11
  clear c11
  obtain rfl := Option.some.inj H
  go_enter Try.func17, Try.ntmps17
  go_wp2_with (first | ((with_reducible refine gtC (f := 22) rfl ?_); refine clz Try.func22 (some 8) #[.slice A0 l0.length c0] ?_; (with_reducible refine (impl_IsCrossingWord.calls k _ _ l0 true _ ?side1 ?side2 A4.out).mono ?_); (case side1 => exact kC HR0.out); (case side2 => exact HC0.out); rintro e w14 ⟨rfl, hb⟩; refine ⟨_, rfl, ?_⟩; replace HB := Az.mk (bwT bw_22 hb); (try clear hb)) | (go_at_call 39; (with_reducible refine (impl_indexOf.calls k _ _ l0 a1 t510 _ ?side1 ?side2 A8.out).mono ?_); (case side1 => exact kC (Kd.C_below HR0.out HB.out)); (case side2 => exact HC0.out); rintro e w' ⟨rfl, ⟨nd, rfl⟩⟩) | (go_at_call 39; (with_reducible refine (impl_indexOf.calls k _ _ l0 a2 t511 _ ?side1 ?side2 A10.out).mono ?_); (case side1 => exact kC (Kd.C_below HR0.out bw_22)); (case side2 => exact HC0.out); rintro e w' ⟨rfl, ⟨nd, rfl⟩⟩))
  go_ret
  exact ⟨rq1, bw_22⟩
 rw [if_pos c11] at H
 have c11b0 : decide (0 ≤ t511) = true := decide_eq_true c11
 clear c11
 replace H := bez H
 obtain ⟨t512, A12, H⟩ := H
 replace H : (some t512) = some r := H
 obtain rfl := Option.some.inj H
 go_enter Try.func17, Try.ntmps17
 go_wp2_with (first | ((with_reducible refine gtC (f := 22) rfl ?_); refine clz Try.func22 (some 8) #[.slice A0 l0.length c0] ?_; (with_reducible refine (impl_IsCrossingWord.calls k _ _ l0 true _ ?side1 ?side2 A4.out).mono ?_); (case side1 => exact kC HR0.out); (case side2 => exact HC0.out); rintro e w13 ⟨rfl, hb⟩; refine ⟨_, rfl, ?_⟩; replace HB := Az.mk (bwT bw_22 hb); (try clear hb)) | (go_at_call 39; (with_reducible refine (impl_indexOf.calls k _ _ l0 a1 t510 _ ?side1 ?side2 A8.out).mono ?_); (case side1 => exact kC (Kd.C_below HR0.out HB.out)); (case side2 => exact HC0.out); rintro e w' ⟨rfl, ⟨nd, rfl⟩⟩) | (go_at_call 39; (with_reducible refine (impl_indexOf.calls k _ _ l0 a2 t511 _ ?side1 ?side2 A10.out).mono ?_); (case side1 => exact kC (Kd.C_below HR0.out bw_22)); (case side2 => exact HC0.out); rintro e w' ⟨rfl, ⟨nd, rfl⟩⟩) | (go_at_call 43; (with_reducible refine (impl_linked.calls k _ _ l0 a1 a2 t512 _ ?side1 ?side2 A12.out).mono ?_); (case side1 => exact kC (Kd.C_below HR0.out bw_22)); (case side2 => exact HC0.out); rintro e w' ⟨rfl, ⟨nd, rfl⟩⟩))
 go_ret
 exact ⟨rq1, bw_22⟩

/-! ### spec_l18Linked: function 47 -/
def spec_l18Linked.f (k : Nat) (l0 : List Int) (a1 : Int) (a2 : Int) : Option (Bool) := (spec_l18Places.f k l0 a1).bind fun bt513 => ((spec_l18Places.f k l0 a2).bind fun bt515 => (if bt513.1 < bt515.1 then (if bt513.1 < bt515.2 then (some ((decide (bt515.1 < bt513.2)) != (decide (bt515.2 < bt513.2)))) else (some ((decide (bt515.1 < bt513.2)) != false))) else (if bt513.1 < bt515.2 then (some (false != (decide (bt515.2 < bt513.2)))) else (some (false != false)))))
set_option maxHeartbeats 8000000 in
set_option maxRecDepth 100000 in
theorem spec_l18Linked.calls (k : Nat) (A0 : Option Addr) (c0 : Nat) (l0 : List Int) (a1 : Int) (a2 : Int) (r : Bool) (w : World) (hr0 : Kd.C (Kd.int .i64) w A0 l0.length l0) (hc0 : l0.length ≤ c0) (h : spec_l18Linked.f k l0 a1 a2 = some r) :
  Calls Try.prog 47 #[.slice A0 l0.length c0, .int .i64 a1, .int .i64 a2] w fun e w' => e = .returned (.bool r) ∧ Drawn0 w w' := by
 have HR0 := Az.mk hr0
 have HC0 := Az.mk hc0
 clear hr0 hc0
 have H : ((spec_l18Places.f k l0 a1).bind fun bt513 => ((spec_l18Places.f k l0 a2).bind fun bt515 => (if bt513.1 < bt515.1 then (if bt513.1 < bt515.2 then (some ((decide (bt515.1 < bt513.2)) != (decide (bt515.2 < bt513.2)))) else (some ((decide (bt515.1 < bt513.2)) != false))) else (if bt513.1 < bt515.2 then (some (false != (decide (bt515.2 < bt513.2)))) else (some (false != false)))))) = some r := h
 clear h
 replace H := bez H
 obtain ⟨⟨t513, t514⟩, A4, H⟩ := H
 try dsimp only at H
 replace H := bez H
 obtain ⟨⟨t515, t516⟩, A5, H⟩ := H
 try dsimp only at H
 by_cases c6 : t513 < t515
 ·rw [if_pos c6] at H
  have c6b0 : decide (t513 < t515) = true := decide_eq_true c6
  clear c6
  by_cases c7 : t513 < t516
  ·rw [if_pos c7] at H
   have c7b0 : decide (t513 < t516) = true := decide_eq_true c7
   clear c7
   obtain rfl := Option.some.inj H
   go_enter Try.func47, Try.ntmps47
   go_wp2_with (first | ((with_reducible refine gtC (f := 63) rfl ?_); refine clz Try.func63 (some 14) #[.slice A0 l0.length c0, .int .i64 a1] ?_; (with_reducible refine (spec_l18Places.calls k _ _ l0 a1 t513 t514 _ ?side1 ?side2 A4.out).mono ?_); (case side1 => exact kC HR0.out); (case side2 => exact HC0.out); rintro e w' ⟨rfl, ⟨nd, rfl⟩⟩; refine ⟨_, rfl, ?_⟩) | ((with_reducible refine gtC (f := 63) rfl ?_); refine clz Try.func63 (some 20) #[.slice A0 l0.length c0, .int .i64 a2] ?_; (with_reducible refine (spec_l18Places.calls k _ _ l0 a2 t515 t516 _ ?side1 ?side2 A5.out).mono ?_); (case side1 => exact kC HR0.out); (case side2 => exact HC0.out); rintro e w' ⟨rfl, ⟨nd, rfl⟩⟩; refine ⟨_, rfl, ?_⟩))
   go_ret
   exact ⟨rq2, kd⟩
  rw [if_neg c7] at H
  have c7b0 : decide (t513 < t516) = false := decide_eq_false c7
  clear c7
  obtain rfl := Option.some.inj H
  go_enter Try.func47, Try.ntmps47
  go_wp2_with (first | ((with_reducible refine gtC (f := 63) rfl ?_); refine clz Try.func63 (some 14) #[.slice A0 l0.length c0, .int .i64 a1] ?_; (with_reducible refine (spec_l18Places.calls k _ _ l0 a1 t513 t514 _ ?side1 ?side2 A4.out).mono ?_); (case side1 => exact kC HR0.out); (case side2 => exact HC0.out); rintro e w' ⟨rfl, ⟨nd, rfl⟩⟩; refine ⟨_, rfl, ?_⟩) | ((with_reducible refine gtC (f := 63) rfl ?_); refine clz Try.func63 (some 20) #[.slice A0 l0.length c0, .int .i64 a2] ?_; (with_reducible refine (spec_l18Places.calls k _ _ l0 a2 t515 t516 _ ?side1 ?side2 A5.out).mono ?_); (case side1 => exact kC HR0.out); (case side2 => exact HC0.out); rintro e w' ⟨rfl, ⟨nd, rfl⟩⟩; refine ⟨_, rfl, ?_⟩))
  go_ret
  exact ⟨rq2, kd⟩
 rw [if_neg c6] at H
 have c6b0 : decide (t513 < t515) = false := decide_eq_false c6
 clear c6
 by_cases c8 : t513 < t516
 ·rw [if_pos c8] at H
  have c8b0 : decide (t513 < t516) = true := decide_eq_true c8
  clear c8
  obtain rfl := Option.some.inj H
  go_enter Try.func47, Try.ntmps47
  go_wp2_with (first | ((with_reducible refine gtC (f := 63) rfl ?_); refine clz Try.func63 (some 14) #[.slice A0 l0.length c0, .int .i64 a1] ?_; (with_reducible refine (spec_l18Places.calls k _ _ l0 a1 t513 t514 _ ?side1 ?side2 A4.out).mono ?_); (case side1 => exact kC HR0.out); (case side2 => exact HC0.out); rintro e w' ⟨rfl, ⟨nd, rfl⟩⟩; refine ⟨_, rfl, ?_⟩) | ((with_reducible refine gtC (f := 63) rfl ?_); refine clz Try.func63 (some 20) #[.slice A0 l0.length c0, .int .i64 a2] ?_; (with_reducible refine (spec_l18Places.calls k _ _ l0 a2 t515 t516 _ ?side1 ?side2 A5.out).mono ?_); (case side1 => exact kC HR0.out); (case side2 => exact HC0.out); rintro e w' ⟨rfl, ⟨nd, rfl⟩⟩; refine ⟨_, rfl, ?_⟩))
  go_ret
  exact ⟨rq2, kd⟩
 rw [if_neg c8] at H
 have c8b0 : decide (t513 < t516) = false := decide_eq_false c8
 clear c8
 obtain rfl := Option.some.inj H
 go_enter Try.func47, Try.ntmps47
 go_wp2_with (first | ((with_reducible refine gtC (f := 63) rfl ?_); refine clz Try.func63 (some 14) #[.slice A0 l0.length c0, .int .i64 a1] ?_; (with_reducible refine (spec_l18Places.calls k _ _ l0 a1 t513 t514 _ ?side1 ?side2 A4.out).mono ?_); (case side1 => exact kC HR0.out); (case side2 => exact HC0.out); rintro e w' ⟨rfl, ⟨nd, rfl⟩⟩; refine ⟨_, rfl, ?_⟩) | ((with_reducible refine gtC (f := 63) rfl ?_); refine clz Try.func63 (some 20) #[.slice A0 l0.length c0, .int .i64 a2] ?_; (with_reducible refine (spec_l18Places.calls k _ _ l0 a2 t515 t516 _ ?side1 ?side2 A5.out).mono ?_); (case side1 => exact kC HR0.out); (case side2 => exact HC0.out); rintro e w' ⟨rfl, ⟨nd, rfl⟩⟩; refine ⟨_, rfl, ?_⟩))
 go_ret
 exact ⟨rq2, kd⟩

/-! ### spec_AreLinked: function 18 -/
def spec_AreLinked.f (k : Nat) (l0 : List Int) (a1 : Int) (a2 : Int) : Option (Bool) := (spec_IsCrossingWord.f k l0).bind fun t517 => (if t517 = true then (if a1 = a2 then (some false) else ((spec_l5Count.f k l0 a1).bind fun t518 => (if t518 = 2 then ((spec_l5Count.f k l0 a2).bind fun t519 => (if t519 = 2 then (if a1 < 1 then (some false) else (if a2 < 1 then (some false) else ((spec_l18Linked.f k l0 a1 a2).bind fun t520 => (some t520)))) else (some false))) else (some false)))) else (some false))
set_option maxHeartbeats 8000000 in
set_option maxRecDepth 100000 in
theorem spec_AreLinked.calls (k : Nat) (A0 : Option Addr) (c0 : Nat) (l0 : List Int) (a1 : Int) (a2 : Int) (r : Bool) (w : World) (hr0 : Kd.C (Kd.int .i64) w A0 l0.length l0) (hc0 : l0.length ≤ c0) (h : spec_AreLinked.f k l0 a1 a2 = some r) :
  Calls Try.prog 18 #[.slice A0 l0.length c0, .int .i64 a1, .int .i64 a2] w fun e w' => e = .returned (.bool r) ∧ Drawn0 w w' := by
 have HR0 := Az.mk hr0
 have HC0 := Az.mk hc0
 clear hr0 hc0
 have H : ((spec_IsCrossingWord.f k l0).bind fun t517 => (if t517 = true then (if a1 = a2 then (some false) else ((spec_l5Count.f k l0 a1).bind fun t518 => (if t518 = 2 then ((spec_l5Count.f k l0 a2).bind fun t519 => (if t519 = 2 then (if a1 < 1 then (some false) else (if a2 < 1 then (some false) else ((spec_l18Linked.f k l0 a1 a2).bind fun t520 => (some t520)))) else (some false))) else (some false)))) else (some false))) = some r := h
 clear h
 replace H := bez H
 obtain ⟨t517, A4, H⟩ := H
 try dsimp only at H
 by_cases c5 : t517 = true
 rotate_left
 ·replace c5 := Bool.eq_false_iff.mpr c5
  subst c5
  rw [if_neg ff] at H
  obtain rfl := Option.some.inj H
  go_enter Try.func18, Try.ntmps18
  go_wp2_with (first | ((with_reducible refine gtC (f := 23) rfl ?_); refine clz Try.func23 (some 8) #[.slice A0 l0.length c0] ?_; (with_reducible refine (spec_IsCrossingWord.calls k _ _ l0 false _ ?side1 ?side2 A4.out).mono ?_); (case side1 => exact kC HR0.out); (case side2 => exact HC0.out); rintro e w' ⟨rfl, ⟨nd, rfl⟩⟩; refine ⟨_, rfl, ?_⟩))
  go_ret
  exact ⟨rq2, kd⟩
 subst c5
 rw [if_pos rfl] at H
 by_cases c6 : a1 = a2
 ·rw [if_pos c6] at H
  have c6b0 : (a1 == a2) = true := beq_iff_eq.mpr c6
  have c6b1 : (a1 != a2) = false := bne_eq_false_iff_eq.mpr c6
  clear c6
  obtain rfl := Option.some.inj H
  go_enter Try.func18, Try.ntmps18
  go_wp2_with (first | ((with_reducible refine gtC (f := 23) rfl ?_); refine clz Try.func23 (some 8) #[.slice A0 l0.length c0] ?_; (with_reducible refine (spec_IsCrossingWord.calls k _ _ l0 true _ ?side1 ?side2 A4.out).mono ?_); (case side1 => exact kC HR0.out); (case side2 => exact HC0.out); rintro e w' ⟨rfl, ⟨nd, rfl⟩⟩; refine ⟨_, rfl, ?_⟩))
  go_ret
  exact ⟨rq2, kd⟩
 rw [if_neg c6] at H
 have c6b0 : (a1 == a2) = false := beq_eq_false_iff_ne.mpr c6
 have c6b1 : (a1 != a2) = true := bne_iff_ne.mpr c6
 replace H := bez H
 obtain ⟨t518, A7, H⟩ := H
 try dsimp only at H
 by_cases c8 : t518 = 2
 rotate_left
 ·rw [if_neg c8] at H
  have c8b0 : (t518 == 2) = false := beq_eq_false_iff_ne.mpr c8
  have c8b1 : (t518 != 2) = true := bne_iff_ne.mpr c8
  obtain rfl := Option.some.inj H
  go_enter Try.func18, Try.ntmps18
  go_wp2_with (first | ((with_reducible refine gtC (f := 23) rfl ?_); refine clz Try.func23 (some 8) #[.slice A0 l0.length c0] ?_; (with_reducible refine (spec_IsCrossingWord.calls k _ _ l0 true _ ?side1 ?side2 A4.out).mono ?_); (case side1 => exact kC HR0.out); (case side2 => exact HC0.out); rintro e w' ⟨rfl, ⟨nd, rfl⟩⟩; refine ⟨_, rfl, ?_⟩) | (go_at_call 40; (with_reducible refine (spec_l5Count.calls k _ _ l0 a1 t518 _ ?side1 ?side2 A7.out).mono ?_); (case side1 => exact kC HR0.out); (case side2 => exact HC0.out); rintro e w' ⟨rfl, ⟨nd, rfl⟩⟩))
  go_ret
  exact ⟨rq2, kd⟩
 rw [if_pos c8] at H
 have c8b0 : (t518 == 2) = true := beq_iff_eq.mpr c8
 have c8b1 : (t518 != 2) = false := bne_eq_false_iff_eq.mpr c8
 clear c8
 replace H := bez H
 obtain ⟨t519, A9, H⟩ := H
 try dsimp only at H
 by_cases c10 : t519 = 2
 rotate_left
 ·rw [if_neg c10] at H
  have c10b0 : (t519 == 2) = false := beq_eq_false_iff_ne.mpr c10
  have c10b1 : (t519 != 2) = true := bne_iff_ne.mpr c10
  obtain rfl := Option.some.inj H
  go_enter Try.func18, Try.ntmps18
  go_wp2_with (first | ((with_reducible refine gtC (f := 23) rfl ?_); refine clz Try.func23 (some 8) #[.slice A0 l0.length c0] ?_; (with_reducible refine (spec_IsCrossingWord.calls k _ _ l0 true _ ?side1 ?side2 A4.out).mono ?_); (case side1 => exact kC HR0.out); (case side2 => exact HC0.out); rintro e w' ⟨rfl, ⟨nd, rfl⟩⟩; refine ⟨_, rfl, ?_⟩) | (go_at_call 40; (with_reducible refine (spec_l5Count.calls k _ _ l0 a1 t518 _ ?side1 ?side2 A7.out).mono ?_); (case side1 => exact kC HR0.out); (case side2 => exact HC0.out); rintro e w' ⟨rfl, ⟨nd, rfl⟩⟩) | (go_at_call 40; (with_reducible refine (spec_l5Count.calls k _ _ l0 a2 t519 _ ?side1 ?side2 A9.out).mono ?_); (case side1 => exact kC HR0.out); (case side2 => exact HC0.out); rintro e w' ⟨rfl, ⟨nd, rfl⟩⟩))
  go_ret
  exact ⟨rq2, kd⟩
 rw [if_pos c10] at H
 have c10b0 : (t519 == 2) = true := beq_iff_eq.mpr c10
 have c10b1 : (t519 != 2) = false := bne_eq_false_iff_eq.mpr c10
 clear c10
 by_cases c11 : a1 < 1
 ·rw [if_pos c11] at H
  have c11b0 : decide (a1 < 1) = true := decide_eq_true c11
  clear c11
  obtain rfl := Option.some.inj H
  go_enter Try.func18, Try.ntmps18
  go_wp2_with (first | ((with_reducible refine gtC (f := 23) rfl ?_); refine clz Try.func23 (some 8) #[.slice A0 l0.length c0] ?_; (with_reducible refine (spec_IsCrossingWord.calls k _ _ l0 true _ ?side1 ?side2 A4.out).mono ?_); (case side1 => exact kC HR0.out); (case side2 => exact HC0.out); rintro e w' ⟨rfl, ⟨nd, rfl⟩⟩; refine ⟨_, rfl, ?_⟩) | (go_at_call 40; (with_reducible refine (spec_l5Count.calls k _ _ l0 a1 t518 _ ?side1 ?side2 A7.out).mono ?_); (case side1 => exact kC HR0.out); (case side2 => exact HC0.out); rintro e w' ⟨rfl, ⟨nd, rfl⟩⟩) | (go_at_call 40; (with_reducible refine (spec_l5Count.calls k _ _ l0 a2 t519 _ ?side1 ?side2 A9.out).mono ?_); (case side1 => exact kC HR0.out); (case side2 => exact HC0.out); rintro e w' ⟨rfl, ⟨nd, rfl⟩⟩))
  go_ret
  exact ⟨rq2, kd⟩
 rw [if_neg c11] at H
 have c11b0 : decide (a1 < 1) = false := decide_eq_false c11
 clear c11
 by_cases c12 : a2 < 1
 ·rw [if_pos c12] at H
  have c12b0 : decide (a2 < 1) = true := decide_eq_true c12
  clear c12
  obtain rfl := Option.some.inj H
  go_enter Try.func18, Try.ntmps18
  go_wp2_with (first | ((with_reducible refine gtC (f := 23) rfl ?_); refine clz Try.func23 (some 8) #[.slice A0 l0.length c0] ?_; (with_reducible refine (spec_IsCrossingWord.calls k _ _ l0 true _ ?side1 ?side2 A4.out).mono ?_); (case side1 => exact kC HR0.out); (case side2 => exact HC0.out); rintro e w' ⟨rfl, ⟨nd, rfl⟩⟩; refine ⟨_, rfl, ?_⟩) | (go_at_call 40; (with_reducible refine (spec_l5Count.calls k _ _ l0 a1 t518 _ ?side1 ?side2 A7.out).mono ?_); (case side1 => exact kC HR0.out); (case side2 => exact HC0.out); rintro e w' ⟨rfl, ⟨nd, rfl⟩⟩) | (go_at_call 40; (with_reducible refine (spec_l5Count.calls k _ _ l0 a2 t519 _ ?side1 ?side2 A9.out).mono ?_); (case side1 => exact kC HR0.out); (case side2 => exact HC0.out); rintro e w' ⟨rfl, ⟨nd, rfl⟩⟩))
  go_ret
  exact ⟨rq2, kd⟩
 rw [if_neg c12] at H
 have c12b0 : decide (a2 < 1) = false := decide_eq_false c12
 clear c12
 replace H := bez H
 obtain ⟨t520, A13, H⟩ := H
 replace H : (some t520) = some r := H
 obtain rfl := Option.some.inj H
 go_enter Try.func18, Try.ntmps18
 go_wp2_with (first | ((with_reducible refine gtC (f := 23) rfl ?_); refine clz Try.func23 (some 8) #[.slice A0 l0.length c0] ?_; (with_reducible refine (spec_IsCrossingWord.calls k _ _ l0 true _ ?side1 ?side2 A4.out).mono ?_); (case side1 => exact kC HR0.out); (case side2 => exact HC0.out); rintro e w' ⟨rfl, ⟨nd, rfl⟩⟩; refine ⟨_, rfl, ?_⟩) | (go_at_call 40; (with_reducible refine (spec_l5Count.calls k _ _ l0 a1 t518 _ ?side1 ?side2 A7.out).mono ?_); (case side1 => exact kC HR0.out); (case side2 => exact HC0.out); rintro e w' ⟨rfl, ⟨nd, rfl⟩⟩) | (go_at_call 40; (with_reducible refine (spec_l5Count.calls k _ _ l0 a2 t519 _ ?side1 ?side2 A9.out).mono ?_); (case side1 => exact kC HR0.out); (case side2 => exact HC0.out); rintro e w' ⟨rfl, ⟨nd, rfl⟩⟩) | ((with_reducible refine gtC (f := 47) rfl ?_); refine clz Try.func47 (some 38) #[.slice A0 l0.length c0, .int .i64 a1, .int .i64 a2] ?_; (with_reducible refine (spec_l18Linked.calls k _ _ l0 a1 a2 t520 _ ?side1 ?side2 A13.out).mono ?_); (case side1 => exact kC HR0.out); (case side2 => exact HC0.out); rintro e w' ⟨rfl, ⟨nd, rfl⟩⟩; refine ⟨_, rfl, ?_⟩))
 go_ret
 exact ⟨rq2, kd⟩

/-! ### laws_sameInts: function 19 -/
def laws_sameInts.l0 : Nat → List Int → List Int → Int → Option (Bool)
 | 0, _, _, _ => none
 | k + 1, x0, x1, x5 => if x5 < (x0.length : Int) then (if 0 ≤ x5 then (if x5 < (x1.length : Int) then (if (rd x0 x5) = (rd x1 x5) then (laws_sameInts.l0 k x0 x1 (wrap64 (x5 + 1))) else (some false)) else (none)) else (none)) else (some true)
def laws_sameInts.f (k : Nat) (l0 : List Int) (l1 : List Int) : Option (Bool) := if (l0.length : Int) = (l1.length : Int) then (laws_sameInts.l0 k l0 l1 0) else (some false)
set_option maxHeartbeats 8000000 in
set_option maxRecDepth 100000 in
theorem laws_sameInts.calls (k : Nat) (A0 : Option Addr) (c0 : Nat) (l0 : List Int) (A1 : Option Addr) (c1 : Nat) (l1 : List Int) (r : Bool) (w : World) (hr0 : Kd.C (Kd.int .i64) w A0 l0.length l0) (hc0 : l0.length ≤ c0) (hr1 : Kd.C (Kd.int .i64) w A1 l1.length l1) (hc1 : l1.length ≤ c1) (h : laws_sameInts.f k l0 l1 = some r) :
  Calls Try.prog 19 #[.slice A0 l0.length c0, .slice A1 l1.length c1] w fun e w' => e = .returned (.bool r) ∧ Drawn0 w w' := by
 have HR0 := Az.mk hr0
 have HC0 := Az.mk hc0
 clear hr0 hc0
 have HR1 := Az.mk hr1
 have HC1 := Az.mk hc1
 clear hr1 hc1
 have H : (if (l0.length : Int) = (l1.length : Int) then (laws_sameInts.l0 k l0 l1 0) else (some false)) = some r := h
 clear h
 by_cases c3 : (l0.length : Int) = (l1.length : Int)
 rotate_left
 ·rw [if_neg c3] at H
  have c3b0 : ((l0.length : Int) == (l1.length : Int)) = false := beq_eq_false_iff_ne.mpr c3
  have c3b1 : ((l0.length : Int) != (l1.length : Int)) = true := bne_iff_ne.mpr c3
  have c3b2 : (l0.length == l1.length) = false := by first | simpa using c3 | (simp at c3 ⊢; omega)
  obtain rfl := Option.some.inj H
  go_enter Try.func19, Try.ntmps19
  go_wp2
  repeat (go_quiet (fail); try go_wp2)
  go_ret
  exact ⟨rq2, kd⟩
 rw [if_pos c3] at H
 have c3b0 : ((l0.length : Int) == (l1.length : Int)) = true := beq_iff_eq.mpr c3
 have c3b1 : ((l0.length : Int) != (l1.length : Int)) = false := bne_eq_false_iff_eq.mpr c3
 have c3b2 : (l0.length == l1.length) = true := by first | simpa using c3 | (simp at c3 ⊢; omega)
 clear c3
 have H' := Az.mk H
 clear H
 go_enter Try.func19, Try.ntmps19
 go_wp2
 repeat (go_quiet (fail); try go_wp2)
 go_loopg [5] k (fun kq v5 w' => ∃ (x5_1 : Int), v5 = .int .i64 x5_1 ∧ Az (laws_sameInts.l0 kq l0 l1 x5_1 = some r) ∧ Az (kq ≤ k) ∧ Drawn0 w w')
 case atStart => exact ⟨(0), rq2, H', ⟨Nat.le_refl _⟩, kd⟩
 clear H'
 try clear c1
 try clear c3
 try clear c3b0
 try clear c3b1
 try clear c3b2
 obtain ⟨x5_1, rfl, HA, HK1, ⟨m1, rfl⟩⟩ := hrel
 cases gk with
 | zero => exact absurd HA.out (by simp [laws_sameInts.l0])
 | succ k1 =>
  have H := HA.out
  clear HA
  simp only [laws_sameInts.l0] at H
  by_cases c4 : x5_1 < (l0.length : Int)
  rotate_left
  ·rw [if_neg c4] at H
   have c4b0 : decide (x5_1 < (l0.length : Int)) = false := decide_eq_false c4
   clear c4
   obtain rfl := Option.some.inj H
   go_wp2
   repeat (go_quiet (fail); try go_wp2)
   go_ret
   exact ⟨rq2, kd⟩
  rw [if_pos c4] at H
  have c4b0 : decide (x5_1 < (l0.length : Int)) = true := decide_eq_true c4
  clear c4
  by_cases c5 : 0 ≤ x5_1
  rotate_left
  ·rw [if_neg c5] at H
   exact absurd H (by simp)
  rw [if_pos c5] at H
  have c5b0 : decide (0 ≤ x5_1) = true := decide_eq_true c5
  clear c5
  by_cases c6 : x5_1 < (l1.length : Int)
  rotate_left
  ·rw [if_neg c6] at H
   exact absurd H (by simp)
  rw [if_pos c6] at H
  have c6b0 : decide (x5_1 < (l1.length : Int)) = true := decide_eq_true c6
  clear c6
  by_cases c7 : (rd l0 x5_1) = (rd l1 x5_1)
  rotate_left
  ·rw [if_neg c7] at H
   have c7b0 : ((rd l0 x5_1) == (rd l1 x5_1)) = false := beq_eq_false_iff_ne.mpr c7
   have c7b1 : ((rd l0 x5_1) != (rd l1 x5_1)) = true := bne_iff_ne.mpr c7
   obtain rfl := Option.some.inj H
   have p521 : 0 ≤ (x5_1 : Int) := of_decide_eq_true am
   have q521 : x5_1 < (l0.length : Int) := of_decide_eq_true am
   obtain ⟨ad521, e521, hx521_0⟩ := Kd.at_int HR0.out x5_1 p521 q521
   cases e521
   replace p521 := eq_true p521
   replace q521 := eq_true q521
   have p522 : 0 ≤ (x5_1 : Int) := of_decide_eq_true am
   have q522 : x5_1 < (l1.length : Int) := of_decide_eq_true am
   obtain ⟨ad522, e522, hx522_0⟩ := Kd.at_int HR1.out x5_1 p522 q522
   cases e522
   replace p522 := eq_true p522
   replace q522 := eq_true q522
   go_wp2
   repeat (go_quiet (fail); try go_wp2)
   go_ret
   exact ⟨rq2, kd⟩
  rw [if_pos c7] at H
  have c7b0 : ((rd l0 x5_1) == (rd l1 x5_1)) = true := beq_iff_eq.mpr c7
  have c7b1 : ((rd l0 x5_1) != (rd l1 x5_1)) = false := bne_eq_false_iff_eq.mpr c7
  clear c7
  have H' := Az.mk H
  clear H
  have p521 : 0 ≤ (x5_1 : Int) := of_decide_eq_true am
  have q521 : x5_1 < (l0.length : Int) := of_decide_eq_true am
  obtain ⟨ad521, e521, hx521_0⟩ := Kd.at_int HR0.out x5_1 p521 q521
  cases e521
  replace p521 := eq_true p521
  replace q521 := eq_true q521
  have p522 : 0 ≤ (x5_1 : Int) := of_decide_eq_true am
  have q522 : x5_1 < (l1.length : Int) := of_decide_eq_true am
  obtain ⟨ad522, e522, hx522_0⟩ := Kd.at_int HR1.out x5_1 p522 q522
  cases e522
  replace p522 := eq_true p522
  replace q522 := eq_true q522
  go_wp2
  repeat (go_quiet (fail); try go_wp2)
  go_roundg k1
  case measure => have := HK1.out; omega
  case rel => exact ⟨(wrap64 (x5_1 + 1)), rq2, H', ⟨by have := HK1.out; omega⟩, kd⟩

end Go.Proofs.Ytkmjcdlhlhefdaa.P
