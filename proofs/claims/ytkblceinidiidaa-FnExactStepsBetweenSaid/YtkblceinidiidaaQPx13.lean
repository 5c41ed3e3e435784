-- By this session's driver (wip/tools/mk.py) of the kit's print program, over several statements at once. Not trusted: Lean checks it.
import Derived.Test.YtkblceinidiidaaQPx0
import Derived.Test.YtkblceinidiidaaQPx3
import Derived.Test.YtkblceinidiidaaQPx8
import Derived.Test.YtkblceinidiidaaQPx10
import Derived.Test.YtkblceinidiidaaQPx11
import Derived.Test.YtkblceinidiidaaQPx12
namespace Go.Proofs.Ytkblceinidiidaa.P
open Go.RowKit Go.Proofs.YtkblceinidiidaaW.PrintWords Go.Proofs.YtkblceinidiidaaW.PrintLast Go.Proofs.YtkblceinidiidaaW.PrintMore
attribute [local go_sem] max2_int min2_int max_two min_two max_three min_three max_four min_four   -- for this text's walks alone
set_option linter.unusedVariables false
set_option linter.unusedSimpArgs false

/-! ### laws_FnExactStepsBetween: function 4 -/
def laws_FnExactStepsBetween.f (k : Nat) (a0_0 : Int) (a0_1 : Int) (a1_0 : Int) (a1_1 : Int) : Option (Bool) := (laws_toSlope.f a0_0 a0_1).bind fun bt245 => ((laws_toSlope.f a1_0 a1_1).bind fun bt247 => ((spec_StepsBetween.f k bt245.1 bt245.2 bt247.1 bt247.2).bind fun t249 => ((laws_toSlope.f a0_0 a0_1).bind fun bt252 => ((laws_toSlope.f a1_0 a1_1).bind fun bt254 => ((impl_StepsBetween.f k bt252.1 bt252.2 bt254.1 bt254.2).bind fun t256 => ((laws_eqSlopeS.f k t256 t249).bind fun t259 => (if t259 = true then ((laws_markSlopeS.f k t256 1).bind fun bt260 => ((laws_heldSlopeS.f k bt260.2 1).bind fun t262 => (if t262 < 0 then (none) else (if t262 = bt260.1 then ((laws_toSlope.f a0_0 a0_1).bind fun bt263 => ((laws_toSlope.f a1_0 a1_1).bind fun bt265 => ((impl_StepsBetween.f k bt263.1 bt263.2 bt265.1 bt265.2).bind fun t267 => ((laws_eqSlopeS.f k t267 t249).bind fun t270 => (if t270 = true then ((laws_heldSlopeS.f k bt260.2 1).bind fun t271 => (if t271 < 0 then (none) else (if t271 = bt260.1 then (some true) else (none)))) else (none)))))) else (none))))) else (none))))))))
theorem laws_FnExactStepsBetween.mono : ∀ a0 a1 a2 a3 k, LeO (laws_FnExactStepsBetween.f k a0 a1 a2 a3) (laws_FnExactStepsBetween.f (k + 1) a0 a1 a2 a3) := by
 intro a0 a1 a2 a3 k
 unfold laws_FnExactStepsBetween.f
 repeat' first
   | (with_reducible exact impl_StepsBetween.mono _ _ _ _ _)
   | (with_reducible exact laws_eqSlopeS.mono _ _ _)
   | (with_reducible exact laws_heldSlopeS.mono _ _ _)
   | (with_reducible exact laws_markSlopeS.mono _ _ _)
   | (with_reducible exact spec_StepsBetween.mono _ _ _ _ _)
   | (with_reducible exact LeO.refl _)
   | (with_reducible exact LeO.none _)
   | (with_reducible refine LeO.ite ?_ ?_)
   | (with_reducible refine LeO.bind ?_ (fun _ => ?_))
   | exact impl_StepsBetween.mono _ _ _ _ _
   | exact laws_eqSlopeS.mono _ _ _
   | exact laws_heldSlopeS.mono _ _ _
   | exact laws_markSlopeS.mono _ _ _
   | exact spec_StepsBetween.mono _ _ _ _ _
   | exact LeO.none _
   | refine LeO.ite ?_ ?_
   | refine LeO.bind ?_ (fun _ => ?_)
set_option maxHeartbeats 8000000 in
set_option maxRecDepth 100000 in
theorem laws_FnExactStepsBetween.calls (k : Nat) (a0_0 : Int) (a0_1 : Int) (a1_0 : Int) (a1_1 : Int) (r : Bool) (w : World) (h : laws_FnExactStepsBetween.f k a0_0 a0_1 a1_0 a1_1 = some r) :
  Calls Try.prog 4 #[.agg #[.int .i64 a0_0, .int .i64 a0_1], .agg #[.int .i64 a1_0, .int .i64 a1_1]] w fun e w' => e = .returned (.bool r) ∧ Below w.heap.size w w' := by
 have hu23 := Try.underlying23
 have HB := Az.mk (Below.refl w.heap.size w)
 have H : ((laws_toSlope.f a0_0 a0_1).bind fun bt245 => ((laws_toSlope.f a1_0 a1_1).bind fun bt247 => ((spec_StepsBetween.f k bt245.1 bt245.2 bt247.1 bt247.2).bind fun t249 => ((laws_toSlope.f a0_0 a0_1).bind fun bt252 => ((laws_toSlope.f a1_0 a1_1).bind fun bt254 => ((impl_StepsBetween.f k bt252.1 bt252.2 bt254.1 bt254.2).bind fun t256 => ((laws_eqSlopeS.f k t256 t249).bind fun t259 => (if t259 = true then ((laws_markSlopeS.f k t256 1).bind fun bt260 => ((laws_heldSlopeS.f k bt260.2 1).bind fun t262 => (if t262 < 0 then (none) else (if t262 = bt260.1 then ((laws_toSlope.f a0_0 a0_1).bind fun bt263 => ((laws_toSlope.f a1_0 a1_1).bind fun bt265 => ((impl_StepsBetween.f k bt263.1 bt263.2 bt265.1 bt265.2).bind fun t267 => ((laws_eqSlopeS.f k t267 t249).bind fun t270 => (if t270 = true then ((laws_heldSlopeS.f k bt260.2 1).bind fun t271 => (if t271 < 0 then (none) else (if t271 = bt260.1 then (some true) else (none)))) else (none)))))) else (none))))) else (none))))))))) = some r := h
 clear h
 replace H := Option.bind_eq_some_iff.mp H
 obtain ⟨⟨t245, t246⟩, A30, H⟩ := H
 replace H : ((laws_toSlope.f a1_0 a1_1).bind fun bt247 => ((spec_StepsBetween.f k t245 t246 bt247.1 bt247.2).bind fun t249 => ((laws_toSlope.f a0_0 a0_1).bind fun bt252 => ((laws_toSlope.f a1_0 a1_1).bind fun bt254 => ((impl_StepsBetween.f k bt252.1 bt252.2 bt254.1 bt254.2).bind fun t256 => ((laws_eqSlopeS.f k t256 t249).bind fun t259 => (if t259 = true then ((laws_markSlopeS.f k t256 1).bind fun bt260 => ((laws_heldSlopeS.f k bt260.2 1).bind fun t262 => (if t262 < 0 then (none) else (if t262 = bt260.1 then ((laws_toSlope.f a0_0 a0_1).bind fun bt263 => ((laws_toSlope.f a1_0 a1_1).bind fun bt265 => ((impl_StepsBetween.f k bt263.1 bt263.2 bt265.1 bt265.2).bind fun t267 => ((laws_eqSlopeS.f k t267 t249).bind fun t270 => (if t270 = true then ((laws_heldSlopeS.f k bt260.2 1).bind fun t271 => (if t271 < 0 then (none) else (if t271 = bt260.1 then (some true) else (none)))) else (none)))))) else (none))))) else (none)))))))) = some r := H
 have A3 := Az.mk A30
 clear A30
 replace H := Option.bind_eq_some_iff.mp H
 obtain ⟨⟨t247, t248⟩, A40, H⟩ := H
 replace H : ((spec_StepsBetween.f k t245 t246 t247 t248).bind fun t249 => ((laws_toSlope.f a0_0 a0_1).bind fun bt252 => ((laws_toSlope.f a1_0 a1_1).bind fun bt254 => ((impl_StepsBetween.f k bt252.1 bt252.2 bt254.1 bt254.2).bind fun t256 => ((laws_eqSlopeS.f k t256 t249).bind fun t259 => (if t259 = true then ((laws_markSlopeS.f k t256 1).bind fun bt260 => ((laws_heldSlopeS.f k bt260.2 1).bind fun t262 => (if t262 < 0 then (none) else (if t262 = bt260.1 then ((laws_toSlope.f a0_0 a0_1).bind fun bt263 => ((laws_toSlope.f a1_0 a1_1).bind fun bt265 => ((impl_StepsBetween.f k bt263.1 bt263.2 bt265.1 bt265.2).bind fun t267 => ((laws_eqSlopeS.f k t267 t249).bind fun t270 => (if t270 = true then ((laws_heldSlopeS.f k bt260.2 1).bind fun t271 => (if t271 < 0 then (none) else (if t271 = bt260.1 then (some true) else (none)))) else (none)))))) else (none))))) else (none))))))) = some r := H
 have A4 := Az.mk A40
 clear A40
 replace H := Option.bind_eq_some_iff.mp H
 obtain ⟨t249, A50, H⟩ := H
 replace H : ((laws_toSlope.f a0_0 a0_1).bind fun bt252 => ((laws_toSlope.f a1_0 a1_1).bind fun bt254 => ((impl_StepsBetween.f k bt252.1 bt252.2 bt254.1 bt254.2).bind fun t256 => ((laws_eqSlopeS.f k t256 t249).bind fun t259 => (if t259 = true then ((laws_markSlopeS.f k t256 1).bind fun bt260 => ((laws_heldSlopeS.f k bt260.2 1).bind fun t262 => (if t262 < 0 then (none) else (if t262 = bt260.1 then ((laws_toSlope.f a0_0 a0_1).bind fun bt263 => ((laws_toSlope.f a1_0 a1_1).bind fun bt265 => ((impl_StepsBetween.f k bt263.1 bt263.2 bt265.1 bt265.2).bind fun t267 => ((laws_eqSlopeS.f k t267 t249).bind fun t270 => (if t270 = true then ((laws_heldSlopeS.f k bt260.2 1).bind fun t271 => (if t271 < 0 then (none) else (if t271 = bt260.1 then (some true) else (none)))) else (none)))))) else (none))))) else (none)))))) = some r := H
 have A5 := Az.mk A50
 clear A50
 replace H := Option.bind_eq_some_iff.mp H
 obtain ⟨⟨t252, t253⟩, A60, H⟩ := H
 replace H : ((laws_toSlope.f a1_0 a1_1).bind fun bt254 => ((impl_StepsBetween.f k t252 t253 bt254.1 bt254.2).bind fun t256 => ((laws_eqSlopeS.f k t256 t249).bind fun t259 => (if t259 = true then ((laws_markSlopeS.f k t256 1).bind fun bt260 => ((laws_heldSlopeS.f k bt260.2 1).bind fun t262 => (if t262 < 0 then (none) else (if t262 = bt260.1 then ((laws_toSlope.f a0_0 a0_1).bind fun bt263 => ((laws_toSlope.f a1_0 a1_1).bind fun bt265 => ((impl_StepsBetween.f k bt263.1 bt263.2 bt265.1 bt265.2).bind fun t267 => ((laws_eqSlopeS.f k t267 t249).bind fun t270 => (if t270 = true then ((laws_heldSlopeS.f k bt260.2 1).bind fun t271 => (if t271 < 0 then (none) else (if t271 = bt260.1 then (some true) else (none)))) else (none)))))) else (none))))) else (none))))) = some r := H
 have A6 := Az.mk A60
 clear A60
 replace H := Option.bind_eq_some_iff.mp H
 obtain ⟨⟨t254, t255⟩, A70, H⟩ := H
 replace H : ((impl_StepsBetween.f k t252 t253 t254 t255).bind fun t256 => ((laws_eqSlopeS.f k t256 t249).bind fun t259 => (if t259 = true then ((laws_markSlopeS.f k t256 1).bind fun bt260 => ((laws_heldSlopeS.f k bt260.2 1).bind fun t262 => (if t262 < 0 then (none) else (if t262 = bt260.1 then ((laws_toSlope.f a0_0 a0_1).bind fun bt263 => ((laws_toSlope.f a1_0 a1_1).bind fun bt265 => ((impl_StepsBetween.f k bt263.1 bt263.2 bt265.1 bt265.2).bind fun t267 => ((laws_eqSlopeS.f k t267 t249).bind fun t270 => (if t270 = true then ((laws_heldSlopeS.f k bt260.2 1).bind fun t271 => (if t271 < 0 then (none) else (if t271 = bt260.1 then (some true) else (none)))) else (none)))))) else (none))))) else (none)))) = some r := H
 have A7 := Az.mk A70
 clear A70
 replace H := Option.bind_eq_some_iff.mp H
 obtain ⟨t256, A80, H⟩ := H
 replace H : ((laws_eqSlopeS.f k t256 t249).bind fun t259 => (if t259 = true then ((laws_markSlopeS.f k t256 1).bind fun bt260 => ((laws_heldSlopeS.f k bt260.2 1).bind fun t262 => (if t262 < 0 then (none) else (if t262 = bt260.1 then ((laws_toSlope.f a0_0 a0_1).bind fun bt263 => ((laws_toSlope.f a1_0 a1_1).bind fun bt265 => ((impl_StepsBetween.f k bt263.1 bt263.2 bt265.1 bt265.2).bind fun t267 => ((laws_eqSlopeS.f k t267 t249).bind fun t270 => (if t270 = true then ((laws_heldSlopeS.f k bt260.2 1).bind fun t271 => (if t271 < 0 then (none) else (if t271 = bt260.1 then (some true) else (none)))) else (none)))))) else (none))))) else (none))) = some r := H
 have A8 := Az.mk A80
 clear A80
 replace H := Option.bind_eq_some_iff.mp H
 obtain ⟨t259, A90, H⟩ := H
 replace H : (if t259 = true then ((laws_markSlopeS.f k t256 1).bind fun bt260 => ((laws_heldSlopeS.f k bt260.2 1).bind fun t262 => (if t262 < 0 then (none) else (if t262 = bt260.1 then ((laws_toSlope.f a0_0 a0_1).bind fun bt263 => ((laws_toSlope.f a1_0 a1_1).bind fun bt265 => ((impl_StepsBetween.f k bt263.1 bt263.2 bt265.1 bt265.2).bind fun t267 => ((laws_eqSlopeS.f k t267 t249).bind fun t270 => (if t270 = true then ((laws_heldSlopeS.f k bt260.2 1).bind fun t271 => (if t271 < 0 then (none) else (if t271 = bt260.1 then (some true) else (none)))) else (none)))))) else (none))))) else (none)) = some r := H
 have A9 := Az.mk A90
 clear A90
 by_cases c10 : t259 = true
 ·subst c10
  have H1 : ((laws_markSlopeS.f k t256 1).bind fun bt260 => ((laws_heldSlopeS.f k bt260.2 1).bind fun t262 => (if t262 < 0 then (none) else (if t262 = bt260.1 then ((laws_toSlope.f a0_0 a0_1).bind fun bt263 => ((laws_toSlope.f a1_0 a1_1).bind fun bt265 => ((impl_StepsBetween.f k bt263.1 bt263.2 bt265.1 bt265.2).bind fun t267 => ((laws_eqSlopeS.f k t267 t249).bind fun t270 => (if t270 = true then ((laws_heldSlopeS.f k bt260.2 1).bind fun t271 => (if t271 < 0 then (none) else (if t271 = bt260.1 then (some true) else (none)))) else (none)))))) else (none))))) = some r := by rw [if_pos rfl] at H; exact H
  clear H
  have H := H1
  clear H1
  replace H := Option.bind_eq_some_iff.mp H
  obtain ⟨⟨t260, t261⟩, A110, H⟩ := H
  replace H : ((laws_heldSlopeS.f k t261 1).bind fun t262 => (if t262 < 0 then (none) else (if t262 = t260 then ((laws_toSlope.f a0_0 a0_1).bind fun bt263 => ((laws_toSlope.f a1_0 a1_1).bind fun bt265 => ((impl_StepsBetween.f k bt263.1 bt263.2 bt265.1 bt265.2).bind fun t267 => ((laws_eqSlopeS.f k t267 t249).bind fun t270 => (if t270 = true then ((laws_heldSlopeS.f k t261 1).bind fun t271 => (if t271 < 0 then (none) else (if t271 = t260 then (some true) else (none)))) else (none)))))) else (none)))) = some r := H
  have A11 := Az.mk A110
  clear A110
  replace H := Option.bind_eq_some_iff.mp H
  obtain ⟨t262, A120, H⟩ := H
  replace H : (if t262 < 0 then (none) else (if t262 = t260 then ((laws_toSlope.f a0_0 a0_1).bind fun bt263 => ((laws_toSlope.f a1_0 a1_1).bind fun bt265 => ((impl_StepsBetween.f k bt263.1 bt263.2 bt265.1 bt265.2).bind fun t267 => ((laws_eqSlopeS.f k t267 t249).bind fun t270 => (if t270 = true then ((laws_heldSlopeS.f k t261 1).bind fun t271 => (if t271 < 0 then (none) else (if t271 = t260 then (some true) else (none)))) else (none)))))) else (none))) = some r := H
  have A12 := Az.mk A120
  clear A120
  by_cases c13 : t262 < 0
  ·rw [if_pos c13] at H
   exact absurd H (by simp)
  ·rw [if_neg c13] at H
   have c13b0 : decide (t262 < 0) = false := decide_eq_false c13
   clear c13
   by_cases c14 : t262 = t260
   ·rw [if_pos c14] at H
    have c14b0 : (t262 == t260) = true := beq_iff_eq.mpr c14
    have c14b1 : (t262 != t260) = false := bne_eq_false_iff_eq.mpr c14
    clear c14
    replace H := Option.bind_eq_some_iff.mp H
    obtain ⟨⟨t263, t264⟩, A150, H⟩ := H
    replace H : ((laws_toSlope.f a1_0 a1_1).bind fun bt265 => ((impl_StepsBetween.f k t263 t264 bt265.1 bt265.2).bind fun t267 => ((laws_eqSlopeS.f k t267 t249).bind fun t270 => (if t270 = true then ((laws_heldSlopeS.f k t261 1).bind fun t271 => (if t271 < 0 then (none) else (if t271 = t260 then (some true) else (none)))) else (none))))) = some r := H
    have A15 := Az.mk A150
    clear A150
    replace H := Option.bind_eq_some_iff.mp H
    obtain ⟨⟨t265, t266⟩, A160, H⟩ := H
    replace H : ((impl_StepsBetween.f k t263 t264 t265 t266).bind fun t267 => ((laws_eqSlopeS.f k t267 t249).bind fun t270 => (if t270 = true then ((laws_heldSlopeS.f k t261 1).bind fun t271 => (if t271 < 0 then (none) else (if t271 = t260 then (some true) else (none)))) else (none)))) = some r := H
    have A16 := Az.mk A160
    clear A160
    replace H := Option.bind_eq_some_iff.mp H
    obtain ⟨t267, A170, H⟩ := H
    replace H : ((laws_eqSlopeS.f k t267 t249).bind fun t270 => (if t270 = true then ((laws_heldSlopeS.f k t261 1).bind fun t271 => (if t271 < 0 then (none) else (if t271 = t260 then (some true) else (none)))) else (none))) = some r := H
    have A17 := Az.mk A170
    clear A170
    replace H := Option.bind_eq_some_iff.mp H
    obtain ⟨t270, A180, H⟩ := H
    replace H : (if t270 = true then ((laws_heldSlopeS.f k t261 1).bind fun t271 => (if t271 < 0 then (none) else (if t271 = t260 then (some true) else (none)))) else (none)) = some r := H
    have A18 := Az.mk A180
    clear A180
    by_cases c19 : t270 = true
    ·subst c19
     have H1 : ((laws_heldSlopeS.f k t261 1).bind fun t271 => (if t271 < 0 then (none) else (if t271 = t260 then (some true) else (none)))) = some r := by rw [if_pos rfl] at H; exact H
     clear H
     have H := H1
     clear H1
     replace H := Option.bind_eq_some_iff.mp H
     obtain ⟨t271, A200, H⟩ := H
     replace H : (if t271 < 0 then (none) else (if t271 = t260 then (some true) else (none))) = some r := H
     have A20 := Az.mk A200
     clear A200
     by_cases c21 : t271 < 0
     ·rw [if_pos c21] at H
      exact absurd H (by simp)
     ·rw [if_neg c21] at H
      have c21b0 : decide (t271 < 0) = false := decide_eq_false c21
      clear c21
      by_cases c22 : t271 = t260
      ·rw [if_pos c22] at H
       have c22b0 : (t271 == t260) = true := beq_iff_eq.mpr c22
       have c22b1 : (t271 != t260) = false := bne_eq_false_iff_eq.mpr c22
       clear c22
       obtain rfl := Option.some.inj H
       go_enter Try.func4, Try.ntmps4
       try go_wp2_with (first | ((with_reducible refine gtD (N := 2) rfl ?_); refine bxE ?hg (N := 2) ?hd (cs := #[.int .i64 a0_0, .int .i64 a0_1]) (t := 23) ?hr ?_; (case hd => rfl); (case hg => rfl); (case hr => first | (go_simp; done) | (go_simp; rfl)); intro gb243 hg w23 hbox hb; have n0_ := Az.mk (bwT (by repeat (first | (with_reducible first | exact HB.out | apply bwA | apply pbN | apply bwD) | exact HB.out)) hb); have n1_ := Az.mk (hbox); have n2_ := Az.mk ((by rw [hg]; exact (bwZ (by repeat (first | (with_reducible first | exact HB.out | apply bwA | apply pbN | apply bwD) | exact HB.out))) : w.heap.size ≤ gb243)); have n3_ := Az.mk ((by rw [hg]; exact (bwZ (by repeat (first | (with_reducible first | exact HB.out | apply bwA | apply pbN | apply bwD) | exact HB.out))) : w.heap.size ≤ gb243)); clear HB; have HB := n0_; have BK243 := n1_; have GW243 := n2_; have GE243 := n3_; clear n0_ n1_ n2_ n3_; clear hb hbox hg) | ((with_reducible refine gtD (N := 3) rfl ?_); refine bxE ?hg (N := 3) ?hd (cs := #[.int .i64 a1_0, .int .i64 a1_1]) (t := 23) ?hr ?_; (case hd => rfl); (case hg => rfl); (case hr => first | (go_simp; done) | (go_simp; rfl)); intro gb244 hg w24 hbox hb; have n0_ := Az.mk (bkB (g := gb243) (o := .cells #[.int .i64 a0_0, .int .i64 a0_1] 23 (0, 0)) (by (with_reducible repeat (first | refine bkN ?_ _ | refine bkD ?_ | refine bkA ?_ _)); exact BK243.out) hb); have n1_ := Az.mk (bwT (by repeat (first | (with_reducible first | exact HB.out | apply bwA | apply pbN | apply bwD | refine bwS ?_ GE243.out) | exact HB.out)) hb); have n2_ := Az.mk (hbox); have n3_ := Az.mk ((by rw [hg]; exact (bwZ (by repeat (first | (with_reducible first | exact HB.out | apply bwA | apply pbN | apply bwD | refine bwS ?_ GE243.out) | exact HB.out))) : w.heap.size ≤ gb244)); have n4_ := Az.mk ((by rw [hg]; exact (bwZ (by repeat (first | (with_reducible first | exact HB.out | apply bwA | apply pbN | apply bwD | refine bwS ?_ GE243.out) | exact HB.out))) : w.heap.size ≤ gb244)); have n5_ := Az.mk ((by rw [hg]; exact Nat.ne_of_lt (blk_lt (g := gb243) (o := .cells #[.int .i64 a0_0, .int .i64 a0_1] 23 (0, 0)) (by (with_reducible repeat (first | refine bkN ?_ _ | refine bkD ?_ | refine bkA ?_ _)); exact BK243.out)) : gb243 ≠ gb244)); have n6_ := Az.mk ((by rw [hg]; exact Nat.ne_of_gt (blk_lt (g := gb243) (o := .cells #[.int .i64 a0_0, .int .i64 a0_1] 23 (0, 0)) (by (with_reducible repeat (first | refine bkN ?_ _ | refine bkD ?_ | refine bkA ?_ _)); exact BK243.out)) : gb244 ≠ gb243)); clear BK243; clear HB; have BK243 := n0_; have HB := n1_; have BK244 := n2_; have GW244 := n3_; have GE244 := n4_; have NB243_244 := n5_; have NB244_243 := n6_; clear n0_ n1_ n2_ n3_ n4_ n5_ n6_; clear hb hbox hg))
       have n0_ := Az.mk (bkD BK243.out)
       have n1_ := Az.mk (bkD BK244.out)
       have n2_ := Az.mk (bwD HB.out)
       clear BK243
       clear BK244
       clear HB
       have BK243 := n0_
       have BK244 := n1_
       have HB := n2_
       clear n0_ n1_ n2_
       refine start_ (n := 6) (S := fun w' => w'.cell? ⟨gb243, 0, none⟩ = some (.int .i64 a0_0) ∧ w'.cell? ⟨gb243, 1, none⟩ = some (.int .i64 a0_1) ∧ w'.cell? ⟨gb244, 0, none⟩ = some (.int .i64 a1_0) ∧ w'.cell? ⟨gb244, 1, none⟩ = some (.int .i64 a1_1)) (ds := []) #[false, false, false, false, false, false] (by kernel_rfl) rfl rfl ⟨(bkC BK243.out 0).trans rfl, (bkC BK243.out 1).trans rfl, (bkC BK244.out 0).trans rfl, (bkC BK244.out 1).trans rfl⟩ (fun hHeld => ?_)
       generalize w24.drew = w25 at BK243 BK244 HB hHeld ⊢
       refine take_ (i := 0) (N := some 10) (v := ?_) (a' := ?_) #[true, false, false, false, false, false] rfl rfl (by kernel_rfl) (fun _ _ _ h => h) (Or.inl ⟨by rfl, ?_⟩) hHeld ?_ ?_
       rotate_left
       ·rintro w' ⟨s0, s1, s2, s3⟩
        go_simp
        with_reducible rfl
       rotate_left
       ·simp only [Act.put, List.setIfInBounds_toArray, List.set_cons_zero, List.set_cons_succ, i64_w, i32_w]
        rfl
       refine take_ (i := 2) (N := some 12) (v := ?_) (a' := ?_) #[true, false, true, false, false, false] rfl rfl (by kernel_rfl) (fun _ _ _ h => h) (Or.inl ⟨by rfl, ?_⟩) hHeld ?_ ?_
       rotate_left
       ·rintro w' ⟨s0, s1, s2, s3⟩
        go_simp
        with_reducible rfl
       rotate_left
       ·simp only [Act.put, List.setIfInBounds_toArray, List.set_cons_zero, List.set_cons_succ, i64_w, i32_w]
        rfl
       refine one_ (i := 1) (N := some 11) #[true, true, true, false, false, false] rfl rfl (by kernel_rfl) (by decide) (fun K hK => ?_)
       refine goes_ Try.func6 (by kernel_rfl) rfl #[.agg #[.int .i64 a0_0, .int .i64 a0_1]] (by rfl) rfl rfl (by (try simp only [List.map_toArray, List.map_cons, List.map_nil]); first | done | rfl | (simp only [List.length_drop, List.length_take]; rfl)) ?_
       with_reducible refine (laws_toSlope.calls a0_0 a0_1 t245 t246 _ A3.out).mono ?_
       rintro e w26 ⟨rfl, hb⟩
       refine ⟨_, rfl, ?_⟩
       have n0_ := Az.mk (bkB (g := gb243) (o := .cells #[.int .i64 a0_0, .int .i64 a0_1] 23 (0, 0)) (by (with_reducible repeat (first | refine bkN ?_ _ | refine bkD ?_ | refine bkA ?_ _)); exact BK243.out) hb)
       have n1_ := Az.mk (bkB (g := gb244) (o := .cells #[.int .i64 a1_0, .int .i64 a1_1] 23 (0, 0)) (by (with_reducible repeat (first | refine bkN ?_ _ | refine bkD ?_ | refine bkA ?_ _)); exact BK244.out) hb)
       have n2_ := Az.mk (bwT (by repeat (first | (with_reducible first | exact HB.out | apply bwA | apply pbN | apply bwD | refine bwS ?_ GE243.out | refine bwS ?_ GE244.out) | exact HB.out)) hb)
       clear BK243
       clear BK244
       clear HB
       have BK243 := n0_
       have BK244 := n1_
       have HB := n2_
       clear n0_ n1_ n2_
       (try clear hb)
       (try clear hb2)
       (try clear hk)
       (try clear hi)
       refine hK.out _ _ ⟨(bkC BK243.out 0).trans rfl, (bkC BK243.out 1).trans rfl, (bkC BK244.out 0).trans rfl, (bkC BK244.out 1).trans rfl⟩ (fun hHeld => ?_)
       clear hK K
       refine norm_ (a' := ?_) ?_ ?_
       rotate_left
       ·show Act.put _ (some 11) _ = _
        simp only [Act.put, List.setIfInBounds_toArray, List.set_cons_zero, List.set_cons_succ, i64_w, i32_w]
        rfl
       refine one_ (i := 3) (N := some 13) #[true, true, true, true, false, false] rfl rfl (by kernel_rfl) (by decide) (fun K hK => ?_)
       refine goes_ Try.func6 (by kernel_rfl) rfl #[.agg #[.int .i64 a1_0, .int .i64 a1_1]] (by rfl) rfl rfl (by (try simp only [List.map_toArray, List.map_cons, List.map_nil]); first | done | rfl | (simp only [List.length_drop, List.length_take]; rfl)) ?_
       with_reducible refine (laws_toSlope.calls a1_0 a1_1 t247 t248 _ A4.out).mono ?_
       rintro e w27 ⟨rfl, hb⟩
       refine ⟨_, rfl, ?_⟩
       have n0_ := Az.mk (bkB (g := gb243) (o := .cells #[.int .i64 a0_0, .int .i64 a0_1] 23 (0, 0)) (by (with_reducible repeat (first | refine bkN ?_ _ | refine bkD ?_ | refine bkA ?_ _)); exact BK243.out) hb)
       have n1_ := Az.mk (bkB (g := gb244) (o := .cells #[.int .i64 a1_0, .int .i64 a1_1] 23 (0, 0)) (by (with_reducible repeat (first | refine bkN ?_ _ | refine bkD ?_ | refine bkA ?_ _)); exact BK244.out) hb)
       have n2_ := Az.mk (bwT (by repeat (first | (with_reducible first | exact HB.out | apply bwA | apply pbN | apply bwD | refine bwS ?_ GE243.out | refine bwS ?_ GE244.out) | exact HB.out)) hb)
       clear BK243
       clear BK244
       clear HB
       have BK243 := n0_
       have BK244 := n1_
       have HB := n2_
       clear n0_ n1_ n2_
       (try clear hb)
       (try clear hb2)
       (try clear hk)
       (try clear hi)
       refine hK.out _ _ ⟨(bkC BK243.out 0).trans rfl, (bkC BK243.out 1).trans rfl, (bkC BK244.out 0).trans rfl, (bkC BK244.out 1).trans rfl⟩ (fun hHeld => ?_)
       clear hK K
       refine norm_ (a' := ?_) ?_ ?_
       rotate_left
       ·show Act.put _ (some 13) _ = _
        simp only [Act.put, List.setIfInBounds_toArray, List.set_cons_zero, List.set_cons_succ, i64_w, i32_w]
        rfl
       refine one_ (i := 4) (N := some 14) #[true, true, true, true, true, false] rfl rfl (by kernel_rfl) (by decide) (fun K hK => ?_)
       refine goes_ Try.func8 (by kernel_rfl) rfl #[.agg #[.int .i64 t245, .int .i64 t246], .agg #[.int .i64 t247, .int .i64 t248]] (by rfl) rfl rfl (by (try simp only [List.map_toArray, List.map_cons, List.map_nil]); first | done | rfl | (simp only [List.length_drop, List.length_take]; rfl)) ?_
       with_reducible refine (spec_StepsBetween.calls k t245 t246 t247 t248 t249 _ A5.out).mono ?_
       rintro e w28 ⟨v250, rfl, ho0, hb⟩
       refine ⟨_, rfl, ?_⟩
       have n0_ := Az.mk (Kd.R_lower ho0 (bwZ (by repeat (first | (with_reducible first | exact HB.out | apply bwA | apply pbN | apply bwD | refine bwS ?_ GE243.out | refine bwS ?_ GE244.out) | exact HB.out))))
       have n1_ := Az.mk (bkB (g := gb243) (o := .cells #[.int .i64 a0_0, .int .i64 a0_1] 23 (0, 0)) (by (with_reducible repeat (first | refine bkN ?_ _ | refine bkD ?_ | refine bkA ?_ _)); exact BK243.out) hb)
       have n2_ := Az.mk (bkB (g := gb244) (o := .cells #[.int .i64 a1_0, .int .i64 a1_1] 23 (0, 0)) (by (with_reducible repeat (first | refine bkN ?_ _ | refine bkD ?_ | refine bkA ?_ _)); exact BK244.out) hb)
       have n3_ := Az.mk (bwT (by repeat (first | (with_reducible first | exact HB.out | apply bwA | apply pbN | apply bwD | refine bwS ?_ GE243.out | refine bwS ?_ GE244.out) | exact HB.out)) hb)
       clear BK243
       clear BK244
       clear HB
       have HO251 := n0_
       have BK243 := n1_
       have BK244 := n2_
       have HB := n3_
       clear n0_ n1_ n2_ n3_
       (try clear hb)
       (try clear hb2)
       (try clear hk)
       (try clear hi)
       (try clear ho0)
       refine hK.out _ _ ⟨(bkC BK243.out 0).trans rfl, (bkC BK243.out 1).trans rfl, (bkC BK244.out 0).trans rfl, (bkC BK244.out 1).trans rfl⟩ (fun hHeld => ?_)
       clear hK K
       refine norm_ (a' := ?_) ?_ ?_
       rotate_left
       ·show Act.put _ (some 14) _ = _
        simp only [Act.put, List.setIfInBounds_toArray, List.set_cons_zero, List.set_cons_succ, i64_w, i32_w]
        rfl
       refine pure_ (i := 5) (N := some 5) (v := ?_) (a' := ?_) #[true, true, true, true, true, true] rfl rfl (by kernel_rfl) (fun _ _ _ h => h) (Or.inl ⟨by rfl, ?_⟩) ?_ ?_
       rotate_left
       ·intro w'
        go_simp
        with_reducible rfl
       rotate_left
       ·simp only [Act.put, List.setIfInBounds_toArray, List.set_cons_zero, List.set_cons_succ, i64_w, i32_w]
        rfl
       refine done_ (by kernel_rfl) ?_
       try go_wp2
       have n0_ := Az.mk (Kd.R_drew HO251.out)
       have n1_ := Az.mk (bkD BK243.out)
       have n2_ := Az.mk (bkD BK244.out)
       have n3_ := Az.mk (bwD HB.out)
       clear HO251
       clear BK243
       clear BK244
       clear HB
       have HO251 := n0_
       have BK243 := n1_
       have BK244 := n2_
       have HB := n3_
       clear n0_ n1_ n2_ n3_
       refine start_ (n := 6) (S := fun w' => w'.cell? ⟨gb243, 0, none⟩ = some (.int .i64 a0_0) ∧ w'.cell? ⟨gb243, 1, none⟩ = some (.int .i64 a0_1) ∧ w'.cell? ⟨gb244, 0, none⟩ = some (.int .i64 a1_0) ∧ w'.cell? ⟨gb244, 1, none⟩ = some (.int .i64 a1_1)) (ds := []) #[false, false, false, false, false, false] (by kernel_rfl) rfl rfl ⟨(bkC BK243.out 0).trans rfl, (bkC BK243.out 1).trans rfl, (bkC BK244.out 0).trans rfl, (bkC BK244.out 1).trans rfl⟩ (fun hHeld => ?_)
       generalize w28.drew = w29 at HO251 BK243 BK244 HB hHeld ⊢
       refine take_ (i := 0) (N := some 15) (v := ?_) (a' := ?_) #[true, false, false, false, false, false] rfl rfl (by kernel_rfl) (fun _ _ _ h => h) (Or.inl ⟨by rfl, ?_⟩) hHeld ?_ ?_
       rotate_left
       ·rintro w' ⟨s0, s1, s2, s3⟩
        go_simp
        with_reducible rfl
       rotate_left
       ·simp only [Act.put, List.setIfInBounds_toArray, List.set_cons_zero, List.set_cons_succ, i64_w, i32_w]
        rfl
       refine take_ (i := 2) (N := some 17) (v := ?_) (a' := ?_) #[true, false, true, false, false, false] rfl rfl (by kernel_rfl) (fun _ _ _ h => h) (Or.inl ⟨by rfl, ?_⟩) hHeld ?_ ?_
       rotate_left
       ·rintro w' ⟨s0, s1, s2, s3⟩
        go_simp
        with_reducible rfl
       rotate_left
       ·simp only [Act.put, List.setIfInBounds_toArray, List.set_cons_zero, List.set_cons_succ, i64_w, i32_w]
        rfl
       refine one_ (i := 1) (N := some 16) #[true, true, true, false, false, false] rfl rfl (by kernel_rfl) (by decide) (fun K hK => ?_)
       refine goes_ Try.func6 (by kernel_rfl) rfl #[.agg #[.int .i64 a0_0, .int .i64 a0_1]] (by rfl) rfl rfl (by (try simp only [List.map_toArray, List.map_cons, List.map_nil]); first | done | rfl | (simp only [List.length_drop, List.length_take]; rfl)) ?_
       with_reducible refine (laws_toSlope.calls a0_0 a0_1 t252 t253 _ A6.out).mono ?_
       rintro e w30 ⟨rfl, hb⟩
       refine ⟨_, rfl, ?_⟩
       have n0_ := Az.mk (Kd.R_below (by (with_reducible repeat (first | apply Kd.R_alloc | apply Kd.R_drewN | apply Kd.R_drew)); exact HO251.out) hb)
       have n1_ := Az.mk (bkB (g := gb243) (o := .cells #[.int .i64 a0_0, .int .i64 a0_1] 23 (0, 0)) (by (with_reducible repeat (first | refine bkN ?_ _ | refine bkD ?_ | refine bkA ?_ _)); exact BK243.out) hb)
       have n2_ := Az.mk (bkB (g := gb244) (o := .cells #[.int .i64 a1_0, .int .i64 a1_1] 23 (0, 0)) (by (with_reducible repeat (first | refine bkN ?_ _ | refine bkD ?_ | refine bkA ?_ _)); exact BK244.out) hb)
       have n3_ := Az.mk (bwT (by repeat (first | (with_reducible first | exact HB.out | apply bwA | apply pbN | apply bwD | refine bwS ?_ GE243.out | refine bwS ?_ GE244.out) | exact HB.out)) hb)
       clear HO251
       clear BK243
       clear BK244
       clear HB
       have HO251 := n0_
       have BK243 := n1_
       have BK244 := n2_
       have HB := n3_
       clear n0_ n1_ n2_ n3_
       (try clear hb)
       (try clear hb2)
       (try clear hk)
       (try clear hi)
       refine hK.out _ _ ⟨(bkC BK243.out 0).trans rfl, (bkC BK243.out 1).trans rfl, (bkC BK244.out 0).trans rfl, (bkC BK244.out 1).trans rfl⟩ (fun hHeld => ?_)
       clear hK K
       refine norm_ (a' := ?_) ?_ ?_
       rotate_left
       ·show Act.put _ (some 16) _ = _
        simp only [Act.put, List.setIfInBounds_toArray, List.set_cons_zero, List.set_cons_succ, i64_w, i32_w]
        rfl
       refine one_ (i := 3) (N := some 18) #[true, true, true, true, false, false] rfl rfl (by kernel_rfl) (by decide) (fun K hK => ?_)
       refine goes_ Try.func6 (by kernel_rfl) rfl #[.agg #[.int .i64 a1_0, .int .i64 a1_1]] (by rfl) rfl rfl (by (try simp only [List.map_toArray, List.map_cons, List.map_nil]); first | done | rfl | (simp only [List.length_drop, List.length_take]; rfl)) ?_
       with_reducible refine (laws_toSlope.calls a1_0 a1_1 t254 t255 _ A7.out).mono ?_
       rintro e w31 ⟨rfl, hb⟩
       refine ⟨_, rfl, ?_⟩
       have n0_ := Az.mk (Kd.R_below (by (with_reducible repeat (first | apply Kd.R_alloc | apply Kd.R_drewN | apply Kd.R_drew)); exact HO251.out) hb)
       have n1_ := Az.mk (bkB (g := gb243) (o := .cells #[.int .i64 a0_0, .int .i64 a0_1] 23 (0, 0)) (by (with_reducible repeat (first | refine bkN ?_ _ | refine bkD ?_ | refine bkA ?_ _)); exact BK243.out) hb)
       have n2_ := Az.mk (bkB (g := gb244) (o := .cells #[.int .i64 a1_0, .int .i64 a1_1] 23 (0, 0)) (by (with_reducible repeat (first | refine bkN ?_ _ | refine bkD ?_ | refine bkA ?_ _)); exact BK244.out) hb)
       have n3_ := Az.mk (bwT (by repeat (first | (with_reducible first | exact HB.out | apply bwA | apply pbN | apply bwD | refine bwS ?_ GE243.out | refine bwS ?_ GE244.out) | exact HB.out)) hb)
       clear HO251
       clear BK243
       clear BK244
       clear HB
       have HO251 := n0_
       have BK243 := n1_
       have BK244 := n2_
       have HB := n3_
       clear n0_ n1_ n2_ n3_
       (try clear hb)
       (try clear hb2)
       (try clear hk)
       (try clear hi)
       refine hK.out _ _ ⟨(bkC BK243.out 0).trans rfl, (bkC BK243.out 1).trans rfl, (bkC BK244.out 0).trans rfl, (bkC BK244.out 1).trans rfl⟩ (fun hHeld => ?_)
       clear hK K
       refine norm_ (a' := ?_) ?_ ?_
       rotate_left
       ·show Act.put _ (some 18) _ = _
        simp only [Act.put, List.setIfInBounds_toArray, List.set_cons_zero, List.set_cons_succ, i64_w, i32_w]
        rfl
       refine one_ (i := 4) (N := some 19) #[true, true, true, true, true, false] rfl rfl (by kernel_rfl) (by decide) (fun K hK => ?_)
       refine goes_ Try.func9 (by kernel_rfl) rfl #[.agg #[.int .i64 t252, .int .i64 t253], .agg #[.int .i64 t254, .int .i64 t255]] (by rfl) rfl rfl (by (try simp only [List.map_toArray, List.map_cons, List.map_nil]); first | done | rfl | (simp only [List.length_drop, List.length_take]; rfl)) ?_
       with_reducible refine (impl_StepsBetween.calls k t252 t253 t254 t255 t256 _ A8.out).mono ?_
       rintro e w32 ⟨v257, rfl, ho0, hb⟩
       refine ⟨_, rfl, ?_⟩
       have n0_ := Az.mk (Kd.R_elder' (by (with_reducible repeat (first | apply Kd.R_alloc | apply Kd.R_drewN | apply Kd.R_drew)); exact HO251.out) (Kd.R_base ho0) hb)
       have n1_ := Az.mk (Kd.R_lower (Kd.R_new' ho0 (Kd.R_lt (by (with_reducible repeat (first | apply Kd.R_alloc | apply Kd.R_drewN | apply Kd.R_drew)); exact HO251.out))) (bwZ (by repeat (first | (with_reducible first | exact HB.out | apply bwA | apply pbN | apply bwD | refine bwS ?_ GE243.out | refine bwS ?_ GE244.out) | exact HB.out))))
       have n2_ := Az.mk (bkB (g := gb243) (o := .cells #[.int .i64 a0_0, .int .i64 a0_1] 23 (0, 0)) (by (with_reducible repeat (first | refine bkN ?_ _ | refine bkD ?_ | refine bkA ?_ _)); exact BK243.out) hb)
       have n3_ := Az.mk (bkB (g := gb244) (o := .cells #[.int .i64 a1_0, .int .i64 a1_1] 23 (0, 0)) (by (with_reducible repeat (first | refine bkN ?_ _ | refine bkD ?_ | refine bkA ?_ _)); exact BK244.out) hb)
       have n4_ := Az.mk (bwT (by repeat (first | (with_reducible first | exact HB.out | apply bwA | apply pbN | apply bwD | refine bwS ?_ GE243.out | refine bwS ?_ GE244.out) | exact HB.out)) hb)
       clear HO251
       clear BK243
       clear BK244
       clear HB
       have HO251 := n0_
       have HO258 := n1_
       have BK243 := n2_
       have BK244 := n3_
       have HB := n4_
       clear n0_ n1_ n2_ n3_ n4_
       (try clear hb)
       (try clear hb2)
       (try clear hk)
       (try clear hi)
       (try clear ho0)
       refine hK.out _ _ ⟨(bkC BK243.out 0).trans rfl, (bkC BK243.out 1).trans rfl, (bkC BK244.out 0).trans rfl, (bkC BK244.out 1).trans rfl⟩ (fun hHeld => ?_)
       clear hK K
       refine norm_ (a' := ?_) ?_ ?_
       rotate_left
       ·show Act.put _ (some 19) _ = _
        simp only [Act.put, List.setIfInBounds_toArray, List.set_cons_zero, List.set_cons_succ, i64_w, i32_w]
        rfl
       refine pure_ (i := 5) (N := some 6) (v := ?_) (a' := ?_) #[true, true, true, true, true, true] rfl rfl (by kernel_rfl) (fun _ _ _ h => h) (Or.inl ⟨by rfl, ?_⟩) ?_ ?_
       rotate_left
       ·intro w'
        go_simp
        with_reducible rfl
       rotate_left
       ·simp only [Act.put, List.setIfInBounds_toArray, List.set_cons_zero, List.set_cons_succ, i64_w, i32_w]
        rfl
       refine done_ (by kernel_rfl) ?_
       obtain ⟨Ao33, co33, eo33⟩ := Kd.R_slice HO258.out
       subst eo33
       obtain ⟨Ao34, co34, eo34⟩ := Kd.R_slice HO251.out
       subst eo34
       try go_wp2_with (first | ((with_reducible refine gtC (f := 10) rfl ?_); refine goesL_ (some 22) rfl rfl Try.func10 (by kernel_rfl) rfl #[.slice Ao33 t256.length co33, .slice Ao34 t249.length co34] rfl (by (try simp only [List.map_toArray, List.map_cons, List.map_nil]); first | done | rfl | (simp only [List.length_drop, List.length_take]; rfl)) ?_; (with_reducible refine (laws_eqSlopeS.calls k _ _ t256 _ _ t249 true _ ?side1 ?side2 ?side3 ?side4 A9.out).mono ?_); (case side1 => repeat (first | exact (Kd.R_reads' HO258.out).2.2 | (with_reducible refine Kd.C_alloc ?_ _) | (with_reducible refine Kd.C_drewN ?_ _) | (with_reducible refine Kd.C_drew ?_))); (case side2 => exact (Kd.R_reads' HO258.out).2.1); (case side3 => repeat (first | exact (Kd.R_reads' HO251.out).2.2 | (with_reducible refine Kd.C_alloc ?_ _) | (with_reducible refine Kd.C_drewN ?_ _) | (with_reducible refine Kd.C_drew ?_))); (case side4 => exact (Kd.R_reads' HO251.out).2.1); rintro e w35 ⟨rfl, hb⟩; refine ⟨_, rfl, ?_⟩; have n0_ := Az.mk (Kd.R_below (by (with_reducible repeat (first | apply Kd.R_alloc | apply Kd.R_drewN | apply Kd.R_drew)); exact HO251.out) hb); have n1_ := Az.mk (Kd.R_below (by (with_reducible repeat (first | apply Kd.R_alloc | apply Kd.R_drewN | apply Kd.R_drew)); exact HO258.out) hb); have n2_ := Az.mk (bkB (g := gb243) (o := .cells #[.int .i64 a0_0, .int .i64 a0_1] 23 (0, 0)) (by (with_reducible repeat (first | refine bkN ?_ _ | refine bkD ?_ | refine bkA ?_ _)); exact BK243.out) hb); have n3_ := Az.mk (bkB (g := gb244) (o := .cells #[.int .i64 a1_0, .int .i64 a1_1] 23 (0, 0)) (by (with_reducible repeat (first | refine bkN ?_ _ | refine bkD ?_ | refine bkA ?_ _)); exact BK244.out) hb); have n4_ := Az.mk (bwT (by repeat (first | (with_reducible first | exact HB.out | apply bwA | apply pbN | apply bwD | refine bwS ?_ GE243.out | refine bwS ?_ GE244.out) | exact HB.out)) hb); clear HO251; clear HO258; clear BK243; clear BK244; clear HB; have HO251 := n0_; have HO258 := n1_; have BK243 := n2_; have BK244 := n3_; have HB := n4_; clear n0_ n1_ n2_ n3_ n4_; (try clear hb); (try clear hb2); (try clear hk); (try clear hi)) | ((with_reducible refine gtC (f := 11) rfl ?_); refine goesL_ (some 26) rfl rfl Try.func11 (by kernel_rfl) rfl #[.slice Ao33 t256.length co33, .int .i64 1] rfl (by (try simp only [List.map_toArray, List.map_cons, List.map_nil]); first | done | rfl | (simp only [List.length_drop, List.length_take]; rfl)) ?_; (with_reducible refine (laws_markSlopeS.calls k (fun k_ => some k_ = (.slice Ao33 t256.length co33 : Value).ownBlock) (.slice Ao33 t256.length co33) t256 1 t260 t261 w _ ?side1 ?side2 A11.out).mono ?_); (case side1 => repeat (first | (with_reducible first | exact HB.out | apply bwA | apply pbN | apply bwD | refine bwS ?_ GE243.out | refine bwS ?_ GE244.out) | exact HB.out)); (case side2 => exact Kd.R_tight rfl HO258.out); rintro e w36 ⟨rfl, hy0, hb, hkp⟩; refine ⟨_, rfl, ?_⟩; have n0_ := Az.mk (blk_kept (by (with_reducible repeat (first | refine bkN ?_ _ | refine bkD ?_ | refine bkA ?_ _)); exact BK243.out) hkp (fun hs_ => (fun e_ => (Kd.R_ne HO258.out BK243.out (by decide)) e_) hs_)); have n1_ := Az.mk (blk_kept (by (with_reducible repeat (first | refine bkN ?_ _ | refine bkD ?_ | refine bkA ?_ _)); exact BK244.out) hkp (fun hs_ => (fun e_ => (Kd.R_ne HO258.out BK244.out (by decide)) e_) hs_)); have n2_ := Az.mk (Kd.R_mono (ok' := fun k_ => some k_ ≠ (.slice Ao33 t256.length co33 : Value).ownBlock) (Kd.R_keptB (HO251.out) hkp (fun k_ hk_ hs_ => (hk_.2) hs_)) (fun k_ hk_ => hk_.1.2)); have n3_ := Az.mk (Kd.R_reok rfl hy0 (fun k_ e_ => HO258.out.1 k_ e_)); have n4_ := Az.mk (hb); clear BK243; clear BK244; clear HO251; clear HO258; clear HB; have BK243 := n0_; have BK244 := n1_; have HO251 := n2_; have HO258 := n3_; have HB := n4_; clear n0_ n1_ n2_ n3_ n4_; (try clear hb); (try clear hkp); (try clear hy0)) | ((with_reducible refine gtC (f := 12) rfl ?_); refine goesL_ (some 29) rfl rfl Try.func12 (by kernel_rfl) rfl #[.slice Ao33 t261.length co33, .int .i64 1] rfl (by (try simp only [List.map_toArray, List.map_cons, List.map_nil]); first | done | (rw [show t261.length = t256.length from (Kd.R_reads' HO258.out).1.symm] <;> rfl) | rfl | (simp only [List.length_drop, List.length_take]; rfl)) ?_; (with_reducible refine (laws_heldSlopeS.calls k _ _ t261 1 t262 _ ?side1 ?side2 A12.out).mono ?_); (case side1 => repeat (first | exact (Kd.R_reads' HO258.out).2.2 | (with_reducible refine Kd.C_alloc ?_ _) | (with_reducible refine Kd.C_drewN ?_ _) | (with_reducible refine Kd.C_drew ?_))); (case side2 => rw [show t261.length = t256.length from (Kd.R_reads' HO258.out).1.symm]; exact (Kd.R_reads' HO258.out).2.1); rintro e w' ⟨rfl, ⟨nd, rfl⟩⟩; refine ⟨_, rfl, ?_⟩))
       (try (rw [drewN_self w36]; generalize hq_ : World.drewN w36 _ = w36; have n0_ : Az (Kd.R k25 25 w36 w.heap.size (fun k_ => some k_ ≠ (.slice Ao33 t256.length co33 : Value).ownBlock) (.slice Ao34 t249.length co34) t249) := ⟨by rw [← hq_]; exact (by (with_reducible repeat (first | apply Kd.R_alloc | apply Kd.R_drewN | apply Kd.R_drew)); exact HO251.out)⟩; have n1_ : Az (Kd.R k25 25 w36 w.heap.size (fun k_ => some k_ ≠ (.slice Ao34 t249.length co34 : Value).ownBlock) (.slice Ao33 t256.length co33) t261) := ⟨by rw [← hq_]; exact (by (with_reducible repeat (first | apply Kd.R_alloc | apply Kd.R_drewN | apply Kd.R_drew)); exact Kd.R_mono HO258.out (fun _ hk => hk.2))⟩; have n2_ : Az (w36.heap[gb243]? = some (.cells #[.int .i64 a0_0, .int .i64 a0_1] 23 (0, 0))) := ⟨by rw [← hq_]; exact (by (with_reducible repeat (first | refine bkN ?_ _ | refine bkD ?_ | refine bkA ?_ _)); exact BK243.out)⟩; have n3_ : Az (w36.heap[gb244]? = some (.cells #[.int .i64 a1_0, .int .i64 a1_1] 23 (0, 0))) := ⟨by rw [← hq_]; exact (by (with_reducible repeat (first | refine bkN ?_ _ | refine bkD ?_ | refine bkA ?_ _)); exact BK244.out)⟩; have n4_ : Az (Below w.heap.size w w36) := ⟨by rw [← hq_]; exact (by repeat (first | (with_reducible first | exact HB.out | apply bwA | apply pbN | apply bwD | refine bwS ?_ GE243.out | refine bwS ?_ GE244.out) | exact HB.out))⟩; clear HO251 HO258 BK243 BK244 HB hq_; have HO251 := n0_; have HO258 := n1_; have BK243 := n2_; have BK244 := n3_; have HB := n4_; clear n0_ n1_ n2_ n3_ n4_))
       have n0_ := Az.mk (Kd.R_drew HO251.out)
       have n1_ := Az.mk (Kd.R_drew HO258.out)
       have n2_ := Az.mk (bkD BK243.out)
       have n3_ := Az.mk (bkD BK244.out)
       have n4_ := Az.mk (bwD HB.out)
       clear HO251
       clear HO258
       clear BK243
       clear BK244
       clear HB
       have HO251 := n0_
       have HO258 := n1_
       have BK243 := n2_
       have BK244 := n3_
       have HB := n4_
       clear n0_ n1_ n2_ n3_ n4_
       refine start_ (n := 6) (S := fun w' => w'.cell? ⟨gb243, 0, none⟩ = some (.int .i64 a0_0) ∧ w'.cell? ⟨gb243, 1, none⟩ = some (.int .i64 a0_1) ∧ w'.cell? ⟨gb244, 0, none⟩ = some (.int .i64 a1_0) ∧ w'.cell? ⟨gb244, 1, none⟩ = some (.int .i64 a1_1)) (ds := []) #[false, false, false, false, false, false] (by kernel_rfl) rfl rfl ⟨(bkC BK243.out 0).trans rfl, (bkC BK243.out 1).trans rfl, (bkC BK244.out 0).trans rfl, (bkC BK244.out 1).trans rfl⟩ (fun hHeld => ?_)
       generalize w36.drew = w37 at HO251 HO258 BK243 BK244 HB hHeld ⊢
       refine take_ (i := 0) (N := some 35) (v := ?_) (a' := ?_) #[true, false, false, false, false, false] rfl rfl (by kernel_rfl) (fun _ _ _ h => h) (Or.inl ⟨by rfl, ?_⟩) hHeld ?_ ?_
       rotate_left
       ·rintro w' ⟨s0, s1, s2, s3⟩
        go_simp
        with_reducible rfl
       rotate_left
       ·simp only [Act.put, List.setIfInBounds_toArray, List.set_cons_zero, List.set_cons_succ, i64_w, i32_w]
        rfl
       refine take_ (i := 2) (N := some 37) (v := ?_) (a' := ?_) #[true, false, true, false, false, false] rfl rfl (by kernel_rfl) (fun _ _ _ h => h) (Or.inl ⟨by rfl, ?_⟩) hHeld ?_ ?_
       rotate_left
       ·rintro w' ⟨s0, s1, s2, s3⟩
        go_simp
        with_reducible rfl
       rotate_left
       ·simp only [Act.put, List.setIfInBounds_toArray, List.set_cons_zero, List.set_cons_succ, i64_w, i32_w]
        rfl
       refine one_ (i := 1) (N := some 36) #[true, true, true, false, false, false] rfl rfl (by kernel_rfl) (by decide) (fun K hK => ?_)
       refine goes_ Try.func6 (by kernel_rfl) rfl #[.agg #[.int .i64 a0_0, .int .i64 a0_1]] (by rfl) rfl rfl (by (try simp only [List.map_toArray, List.map_cons, List.map_nil]); first | done | rfl | (simp only [List.length_drop, List.length_take]; rfl)) ?_
       with_reducible refine (laws_toSlope.calls a0_0 a0_1 t263 t264 _ A15.out).mono ?_
       rintro e w38 ⟨rfl, hb⟩
       refine ⟨_, rfl, ?_⟩
       have n0_ := Az.mk (Kd.R_below (by (with_reducible repeat (first | apply Kd.R_alloc | apply Kd.R_drewN | apply Kd.R_drew)); exact HO251.out) hb)
       have n1_ := Az.mk (Kd.R_below (by (with_reducible repeat (first | apply Kd.R_alloc | apply Kd.R_drewN | apply Kd.R_drew)); exact HO258.out) hb)
       have n2_ := Az.mk (bkB (g := gb243) (o := .cells #[.int .i64 a0_0, .int .i64 a0_1] 23 (0, 0)) (by (with_reducible repeat (first | refine bkN ?_ _ | refine bkD ?_ | refine bkA ?_ _)); exact BK243.out) hb)
       have n3_ := Az.mk (bkB (g := gb244) (o := .cells #[.int .i64 a1_0, .int .i64 a1_1] 23 (0, 0)) (by (with_reducible repeat (first | refine bkN ?_ _ | refine bkD ?_ | refine bkA ?_ _)); exact BK244.out) hb)
       have n4_ := Az.mk (bwT (by repeat (first | (with_reducible first | exact HB.out | apply bwA | apply pbN | apply bwD | refine bwS ?_ GE243.out | refine bwS ?_ GE244.out) | exact HB.out)) hb)
       clear HO251
       clear HO258
       clear BK243
       clear BK244
       clear HB
       have HO251 := n0_
       have HO258 := n1_
       have BK243 := n2_
       have BK244 := n3_
       have HB := n4_
       clear n0_ n1_ n2_ n3_ n4_
       (try clear hb)
       (try clear hb2)
       (try clear hk)
       (try clear hi)
       refine hK.out _ _ ⟨(bkC BK243.out 0).trans rfl, (bkC BK243.out 1).trans rfl, (bkC BK244.out 0).trans rfl, (bkC BK244.out 1).trans rfl⟩ (fun hHeld => ?_)
       clear hK K
       refine norm_ (a' := ?_) ?_ ?_
       rotate_left
       ·show Act.put _ (some 36) _ = _
        simp only [Act.put, List.setIfInBounds_toArray, List.set_cons_zero, List.set_cons_succ, i64_w, i32_w]
        rfl
       refine one_ (i := 3) (N := some 38) #[true, true, true, true, false, false] rfl rfl (by kernel_rfl) (by decide) (fun K hK => ?_)
       refine goes_ Try.func6 (by kernel_rfl) rfl #[.agg #[.int .i64 a1_0, .int .i64 a1_1]] (by rfl) rfl rfl (by (try simp only [List.map_toArray, List.map_cons, List.map_nil]); first | done | rfl | (simp only [List.length_drop, List.length_take]; rfl)) ?_
       with_reducible refine (laws_toSlope.calls a1_0 a1_1 t265 t266 _ A16.out).mono ?_
       rintro e w39 ⟨rfl, hb⟩
       refine ⟨_, rfl, ?_⟩
       have n0_ := Az.mk (Kd.R_below (by (with_reducible repeat (first | apply Kd.R_alloc | apply Kd.R_drewN | apply Kd.R_drew)); exact HO251.out) hb)
       have n1_ := Az.mk (Kd.R_below (by (with_reducible repeat (first | apply Kd.R_alloc | apply Kd.R_drewN | apply Kd.R_drew)); exact HO258.out) hb)
       have n2_ := Az.mk (bkB (g := gb243) (o := .cells #[.int .i64 a0_0, .int .i64 a0_1] 23 (0, 0)) (by (with_reducible repeat (first | refine bkN ?_ _ | refine bkD ?_ | refine bkA ?_ _)); exact BK243.out) hb)
       have n3_ := Az.mk (bkB (g := gb244) (o := .cells #[.int .i64 a1_0, .int .i64 a1_1] 23 (0, 0)) (by (with_reducible repeat (first | refine bkN ?_ _ | refine bkD ?_ | refine bkA ?_ _)); exact BK244.out) hb)
       have n4_ := Az.mk (bwT (by repeat (first | (with_reducible first | exact HB.out | apply bwA | apply pbN | apply bwD | refine bwS ?_ GE243.out | refine bwS ?_ GE244.out) | exact HB.out)) hb)
       clear HO251
       clear HO258
       clear BK243
       clear BK244
       clear HB
       have HO251 := n0_
       have HO258 := n1_
       have BK243 := n2_
       have BK244 := n3_
       have HB := n4_
       clear n0_ n1_ n2_ n3_ n4_
       (try clear hb)
       (try clear hb2)
       (try clear hk)
       (try clear hi)
       refine hK.out _ _ ⟨(bkC BK243.out 0).trans rfl, (bkC BK243.out 1).trans rfl, (bkC BK244.out 0).trans rfl, (bkC BK244.out 1).trans rfl⟩ (fun hHeld => ?_)
       clear hK K
       refine norm_ (a' := ?_) ?_ ?_
       rotate_left
       ·show Act.put _ (some 38) _ = _
        simp only [Act.put, List.setIfInBounds_toArray, List.set_cons_zero, List.set_cons_succ, i64_w, i32_w]
        rfl
       refine one_ (i := 4) (N := some 39) #[true, true, true, true, true, false] rfl rfl (by kernel_rfl) (by decide) (fun K hK => ?_)
       refine goes_ Try.func9 (by kernel_rfl) rfl #[.agg #[.int .i64 t263, .int .i64 t264], .agg #[.int .i64 t265, .int .i64 t266]] (by rfl) rfl rfl (by (try simp only [List.map_toArray, List.map_cons, List.map_nil]); first | done | rfl | (simp only [List.length_drop, List.length_take]; rfl)) ?_
       with_reducible refine (impl_StepsBetween.calls k t263 t264 t265 t266 t267 _ A17.out).mono ?_
       rintro e w40 ⟨v268, rfl, ho0, hb⟩
       refine ⟨_, rfl, ?_⟩
       have n0_ := Az.mk (Kd.R_elder' (by (with_reducible repeat (first | apply Kd.R_alloc | apply Kd.R_drewN | apply Kd.R_drew)); exact HO251.out) (Kd.R_base ho0) hb)
       have n1_ := Az.mk (Kd.R_elder' (by (with_reducible repeat (first | apply Kd.R_alloc | apply Kd.R_drewN | apply Kd.R_drew)); exact HO258.out) (Kd.R_base ho0) hb)
       have n2_ := Az.mk (Kd.R_lower (Kd.R_new' (Kd.R_new' ho0 (Kd.R_lt (by (with_reducible repeat (first | apply Kd.R_alloc | apply Kd.R_drewN | apply Kd.R_drew)); exact HO251.out))) (Kd.R_lt (by (with_reducible repeat (first | apply Kd.R_alloc | apply Kd.R_drewN | apply Kd.R_drew)); exact HO258.out))) (bwZ (by repeat (first | (with_reducible first | exact HB.out | apply bwA | apply pbN | apply bwD | refine bwS ?_ GE243.out | refine bwS ?_ GE244.out) | exact HB.out))))
       have n3_ := Az.mk (bkB (g := gb243) (o := .cells #[.int .i64 a0_0, .int .i64 a0_1] 23 (0, 0)) (by (with_reducible repeat (first | refine bkN ?_ _ | refine bkD ?_ | refine bkA ?_ _)); exact BK243.out) hb)
       have n4_ := Az.mk (bkB (g := gb244) (o := .cells #[.int .i64 a1_0, .int .i64 a1_1] 23 (0, 0)) (by (with_reducible repeat (first | refine bkN ?_ _ | refine bkD ?_ | refine bkA ?_ _)); exact BK244.out) hb)
       have n5_ := Az.mk (bwT (by repeat (first | (with_reducible first | exact HB.out | apply bwA | apply pbN | apply bwD | refine bwS ?_ GE243.out | refine bwS ?_ GE244.out) | exact HB.out)) hb)
       clear HO251
       clear HO258
       clear BK243
       clear BK244
       clear HB
       have HO251 := n0_
       have HO258 := n1_
       have HO269 := n2_
       have BK243 := n3_
       have BK244 := n4_
       have HB := n5_
       clear n0_ n1_ n2_ n3_ n4_ n5_
       (try clear hb)
       (try clear hb2)
       (try clear hk)
       (try clear hi)
       (try clear ho0)
       refine hK.out _ _ ⟨(bkC BK243.out 0).trans rfl, (bkC BK243.out 1).trans rfl, (bkC BK244.out 0).trans rfl, (bkC BK244.out 1).trans rfl⟩ (fun hHeld => ?_)
       clear hK K
       refine norm_ (a' := ?_) ?_ ?_
       rotate_left
       ·show Act.put _ (some 39) _ = _
        simp only [Act.put, List.setIfInBounds_toArray, List.set_cons_zero, List.set_cons_succ, i64_w, i32_w]
        rfl
       refine pure_ (i := 5) (N := some 9) (v := ?_) (a' := ?_) #[true, true, true, true, true, true] rfl rfl (by kernel_rfl) (fun _ _ _ h => h) (Or.inl ⟨by rfl, ?_⟩) ?_ ?_
       rotate_left
       ·intro w'
        go_simp
        with_reducible rfl
       rotate_left
       ·simp only [Act.put, List.setIfInBounds_toArray, List.set_cons_zero, List.set_cons_succ, i64_w, i32_w]
        rfl
       refine done_ (by kernel_rfl) ?_
       obtain ⟨Ao41, co41, eo41⟩ := Kd.R_slice HO269.out
       subst eo41
       try go_wp2_with (first | ((with_reducible refine gtC (f := 10) rfl ?_); refine goesL_ (some 42) rfl rfl Try.func10 (by kernel_rfl) rfl #[.slice Ao41 t267.length co41, .slice Ao34 t249.length co34] rfl (by (try simp only [List.map_toArray, List.map_cons, List.map_nil]); first | done | rfl | (simp only [List.length_drop, List.length_take]; rfl)) ?_; (with_reducible refine (laws_eqSlopeS.calls k _ _ t267 _ _ t249 true _ ?side1 ?side2 ?side3 ?side4 A18.out).mono ?_); (case side1 => repeat (first | exact (Kd.R_reads' HO269.out).2.2 | (with_reducible refine Kd.C_alloc ?_ _) | (with_reducible refine Kd.C_drewN ?_ _) | (with_reducible refine Kd.C_drew ?_))); (case side2 => exact (Kd.R_reads' HO269.out).2.1); (case side3 => repeat (first | exact (Kd.R_reads' HO251.out).2.2 | (with_reducible refine Kd.C_alloc ?_ _) | (with_reducible refine Kd.C_drewN ?_ _) | (with_reducible refine Kd.C_drew ?_))); (case side4 => exact (Kd.R_reads' HO251.out).2.1); rintro e w42 ⟨rfl, hb⟩; refine ⟨_, rfl, ?_⟩; have n0_ := Az.mk (Kd.R_below (by (with_reducible repeat (first | apply Kd.R_alloc | apply Kd.R_drewN | apply Kd.R_drew)); exact HO251.out) hb); have n1_ := Az.mk (Kd.R_below (by (with_reducible repeat (first | apply Kd.R_alloc | apply Kd.R_drewN | apply Kd.R_drew)); exact HO258.out) hb); have n2_ := Az.mk (Kd.R_below (by (with_reducible repeat (first | apply Kd.R_alloc | apply Kd.R_drewN | apply Kd.R_drew)); exact HO269.out) hb); have n3_ := Az.mk (bkB (g := gb243) (o := .cells #[.int .i64 a0_0, .int .i64 a0_1] 23 (0, 0)) (by (with_reducible repeat (first | refine bkN ?_ _ | refine bkD ?_ | refine bkA ?_ _)); exact BK243.out) hb); have n4_ := Az.mk (bkB (g := gb244) (o := .cells #[.int .i64 a1_0, .int .i64 a1_1] 23 (0, 0)) (by (with_reducible repeat (first | refine bkN ?_ _ | refine bkD ?_ | refine bkA ?_ _)); exact BK244.out) hb); have n5_ := Az.mk (bwT (by repeat (first | (with_reducible first | exact HB.out | apply bwA | apply pbN | apply bwD | refine bwS ?_ GE243.out | refine bwS ?_ GE244.out) | exact HB.out)) hb); clear HO251; clear HO258; clear HO269; clear BK243; clear BK244; clear HB; have HO251 := n0_; have HO258 := n1_; have HO269 := n2_; have BK243 := n3_; have BK244 := n4_; have HB := n5_; clear n0_ n1_ n2_ n3_ n4_ n5_; (try clear hb); (try clear hb2); (try clear hk); (try clear hi)) | ((with_reducible refine gtC (f := 12) rfl ?_); refine goesL_ (some 46) rfl rfl Try.func12 (by kernel_rfl) rfl #[.slice Ao33 t261.length co33, .int .i64 1] rfl (by (try simp only [List.map_toArray, List.map_cons, List.map_nil]); first | done | (rw [show t261.length = t256.length from (Kd.R_reads' HO258.out).1.symm] <;> rfl) | rfl | (simp only [List.length_drop, List.length_take]; rfl)) ?_; (with_reducible refine (laws_heldSlopeS.calls k _ _ t261 1 t271 _ ?side1 ?side2 A20.out).mono ?_); (case side1 => repeat (first | exact (Kd.R_reads' HO258.out).2.2 | (with_reducible refine Kd.C_alloc ?_ _) | (with_reducible refine Kd.C_drewN ?_ _) | (with_reducible refine Kd.C_drew ?_))); (case side2 => rw [show t261.length = t256.length from (Kd.R_reads' HO258.out).1.symm]; exact (Kd.R_reads' HO258.out).2.1); rintro e w' ⟨rfl, ⟨nd, rfl⟩⟩; refine ⟨_, rfl, ?_⟩))
       go_ret
       exact ⟨by first | rfl | (simp [eWn, eWs] <;> rfl) | (simp [*, eWn, eWs] <;> rfl), by repeat (first | (with_reducible first | exact HB.out | apply bwA | apply pbN | apply bwD | refine bwS ?_ GE243.out | refine bwS ?_ GE244.out) | exact HB.out)⟩
      ·rw [if_neg c22] at H
       exact absurd H (by simp)
    ·replace c19 := Bool.eq_false_iff.mpr c19
     subst c19
     have H1 : (none) = some r := by rw [if_neg (show ¬ (false = true) by decide)] at H; exact H
     clear H
     have H := H1
     clear H1
     exact absurd H (by simp)
   ·rw [if_neg c14] at H
    exact absurd H (by simp)
 ·replace c10 := Bool.eq_false_iff.mpr c10
  subst c10
  have H1 : (none) = some r := by rw [if_neg (show ¬ (false = true) by decide)] at H; exact H
  clear H
  have H := H1
  clear H1
  exact absurd H (by simp)

end Go.Proofs.Ytkblceinidiidaa.P
