-- By this session's driver (wip/tools/mk.py) of the kit's print program, over several statements at once. Not trusted: Lean checks it.
import Derived.Test.YtjmifldndjkmpaaPx0
import Derived.Test.YtjmifldndjkmpaaPx7
import Derived.Test.YtjmifldndjkmpaaPx15
import Derived.Test.YtjmifldndjkmpaaPx16
import Derived.Test.YtjmifldndjkmpaaPx42
namespace Go.Proofs.Ytjmifldndjkmpaa.P
open Go.RowKit Go.Proofs.YtjmifldndjkmpaaW.PrintWords Go.Proofs.YtjmifldndjkmpaaW.PrintLast Go.Proofs.YtjmifldndjkmpaaW.PrintMore
attribute [local go_sem] max2_int min2_int max_two min_two max_three min_three max_four min_four   -- for this text's walks alone
set_option linter.unusedVariables false
set_option linter.unusedSimpArgs false

/-! ### laws_FnExactCommonNeighbours: function 14 -/
def laws_FnExactCommonNeighbours.f (k : Nat) (a0_0 : Int) (a0_1 : Int) (a1_0 : Int) (a1_1 : Int) : Option (Bool) := (laws_toSlope.f a0_0 a0_1).bind fun bt585 => ((laws_toSlope.f a1_0 a1_1).bind fun bt587 => ((spec_CommonNeighbours.f k bt585.1 bt585.2 bt587.1 bt587.2).bind fun t589 => ((laws_toSlope.f a0_0 a0_1).bind fun bt592 => ((laws_toSlope.f a1_0 a1_1).bind fun bt594 => ((impl_CommonNeighbours.f k bt592.1 bt592.2 bt594.1 bt594.2).bind fun t596 => ((laws_eqSlopeS.f k t596 t589).bind fun t599 => (if t599 = true then ((laws_markSlopeS.f k t596 1).bind fun bt600 => ((laws_heldSlopeS.f k bt600.2 1).bind fun t602 => (if t602 < 0 then (none) else (if t602 = bt600.1 then ((laws_toSlope.f a0_0 a0_1).bind fun bt603 => ((laws_toSlope.f a1_0 a1_1).bind fun bt605 => ((impl_CommonNeighbours.f k bt603.1 bt603.2 bt605.1 bt605.2).bind fun t607 => ((laws_eqSlopeS.f k t607 t589).bind fun t610 => (if t610 = true then ((laws_heldSlopeS.f k bt600.2 1).bind fun t611 => (if t611 < 0 then (none) else (if t611 = bt600.1 then (some true) else (none)))) else (none)))))) else (none))))) else (none))))))))
theorem laws_FnExactCommonNeighbours.mono : ∀ a0 a1 a2 a3 k, LeO (laws_FnExactCommonNeighbours.f k a0 a1 a2 a3) (laws_FnExactCommonNeighbours.f (k + 1) a0 a1 a2 a3) := by
  intro a0 a1 a2 a3 k
  unfold laws_FnExactCommonNeighbours.f
  repeat' first
      | (with_reducible exact impl_CommonNeighbours.mono _ _ _ _ _)
      | (with_reducible exact laws_eqSlopeS.mono _ _ _)
      | (with_reducible exact laws_heldSlopeS.mono _ _ _)
      | (with_reducible exact laws_markSlopeS.mono _ _ _)
      | (with_reducible exact spec_CommonNeighbours.mono _ _ _ _ _)
      | (with_reducible exact LeO.refl _)
      | (with_reducible exact LeO.none _)
      | (with_reducible refine LeO.ite ?_ ?_)
      | (with_reducible refine LeO.bind ?_ (fun _ => ?_))
      | exact impl_CommonNeighbours.mono _ _ _ _ _
      | exact laws_eqSlopeS.mono _ _ _
      | exact laws_heldSlopeS.mono _ _ _
      | exact laws_markSlopeS.mono _ _ _
      | exact spec_CommonNeighbours.mono _ _ _ _ _
      | exact LeO.none _
      | refine LeO.ite ?_ ?_
      | refine LeO.bind ?_ (fun _ => ?_)
set_option maxHeartbeats 8000000 in
set_option maxRecDepth 100000 in
theorem laws_FnExactCommonNeighbours.calls (k : Nat) (a0_0 : Int) (a0_1 : Int) (a1_0 : Int) (a1_1 : Int) (r : Bool) (w : World) (h : laws_FnExactCommonNeighbours.f k a0_0 a0_1 a1_0 a1_1 = some r) :
    Calls Try.prog 14 #[.agg #[.int .i64 a0_0, .int .i64 a0_1], .agg #[.int .i64 a1_0, .int .i64 a1_1]] w fun e w' => e = .returned (.bool r) ∧ Below w.heap.size w w' := by
  have hu36 := Try.underlying36
  have HB := Aside0.mk (Below.refl w.heap.size w)
  have H : ((laws_toSlope.f a0_0 a0_1).bind fun bt585 => ((laws_toSlope.f a1_0 a1_1).bind fun bt587 => ((spec_CommonNeighbours.f k bt585.1 bt585.2 bt587.1 bt587.2).bind fun t589 => ((laws_toSlope.f a0_0 a0_1).bind fun bt592 => ((laws_toSlope.f a1_0 a1_1).bind fun bt594 => ((impl_CommonNeighbours.f k bt592.1 bt592.2 bt594.1 bt594.2).bind fun t596 => ((laws_eqSlopeS.f k t596 t589).bind fun t599 => (if t599 = true then ((laws_markSlopeS.f k t596 1).bind fun bt600 => ((laws_heldSlopeS.f k bt600.2 1).bind fun t602 => (if t602 < 0 then (none) else (if t602 = bt600.1 then ((laws_toSlope.f a0_0 a0_1).bind fun bt603 => ((laws_toSlope.f a1_0 a1_1).bind fun bt605 => ((impl_CommonNeighbours.f k bt603.1 bt603.2 bt605.1 bt605.2).bind fun t607 => ((laws_eqSlopeS.f k t607 t589).bind fun t610 => (if t610 = true then ((laws_heldSlopeS.f k bt600.2 1).bind fun t611 => (if t611 < 0 then (none) else (if t611 = bt600.1 then (some true) else (none)))) else (none)))))) else (none))))) else (none))))))))) = some r := h
  clear h
  replace H := Option.bind_eq_some_iff.mp H
  obtain ⟨⟨t585, t586⟩, A30, H⟩ := H
  replace H : ((laws_toSlope.f a1_0 a1_1).bind fun bt587 => ((spec_CommonNeighbours.f k t585 t586 bt587.1 bt587.2).bind fun t589 => ((laws_toSlope.f a0_0 a0_1).bind fun bt592 => ((laws_toSlope.f a1_0 a1_1).bind fun bt594 => ((impl_CommonNeighbours.f k bt592.1 bt592.2 bt594.1 bt594.2).bind fun t596 => ((laws_eqSlopeS.f k t596 t589).bind fun t599 => (if t599 = true then ((laws_markSlopeS.f k t596 1).bind fun bt600 => ((laws_heldSlopeS.f k bt600.2 1).bind fun t602 => (if t602 < 0 then (none) else (if t602 = bt600.1 then ((laws_toSlope.f a0_0 a0_1).bind fun bt603 => ((laws_toSlope.f a1_0 a1_1).bind fun bt605 => ((impl_CommonNeighbours.f k bt603.1 bt603.2 bt605.1 bt605.2).bind fun t607 => ((laws_eqSlopeS.f k t607 t589).bind fun t610 => (if t610 = true then ((laws_heldSlopeS.f k bt600.2 1).bind fun t611 => (if t611 < 0 then (none) else (if t611 = bt600.1 then (some true) else (none)))) else (none)))))) else (none))))) else (none)))))))) = some r := H
  have A3 := Aside0.mk A30
  clear A30
  replace H := Option.bind_eq_some_iff.mp H
  obtain ⟨⟨t587, t588⟩, A40, H⟩ := H
  replace H : ((spec_CommonNeighbours.f k t585 t586 t587 t588).bind fun t589 => ((laws_toSlope.f a0_0 a0_1).bind fun bt592 => ((laws_toSlope.f a1_0 a1_1).bind fun bt594 => ((impl_CommonNeighbours.f k bt592.1 bt592.2 bt594.1 bt594.2).bind fun t596 => ((laws_eqSlopeS.f k t596 t589).bind fun t599 => (if t599 = true then ((laws_markSlopeS.f k t596 1).bind fun bt600 => ((laws_heldSlopeS.f k bt600.2 1).bind fun t602 => (if t602 < 0 then (none) else (if t602 = bt600.1 then ((laws_toSlope.f a0_0 a0_1).bind fun bt603 => ((laws_toSlope.f a1_0 a1_1).bind fun bt605 => ((impl_CommonNeighbours.f k bt603.1 bt603.2 bt605.1 bt605.2).bind fun t607 => ((laws_eqSlopeS.f k t607 t589).bind fun t610 => (if t610 = true then ((laws_heldSlopeS.f k bt600.2 1).bind fun t611 => (if t611 < 0 then (none) else (if t611 = bt600.1 then (some true) else (none)))) else (none)))))) else (none))))) else (none))))))) = some r := H
  have A4 := Aside0.mk A40
  clear A40
  replace H := Option.bind_eq_some_iff.mp H
  obtain ⟨t589, A50, H⟩ := H
  replace H : ((laws_toSlope.f a0_0 a0_1).bind fun bt592 => ((laws_toSlope.f a1_0 a1_1).bind fun bt594 => ((impl_CommonNeighbours.f k bt592.1 bt592.2 bt594.1 bt594.2).bind fun t596 => ((laws_eqSlopeS.f k t596 t589).bind fun t599 => (if t599 = true then ((laws_markSlopeS.f k t596 1).bind fun bt600 => ((laws_heldSlopeS.f k bt600.2 1).bind fun t602 => (if t602 < 0 then (none) else (if t602 = bt600.1 then ((laws_toSlope.f a0_0 a0_1).bind fun bt603 => ((laws_toSlope.f a1_0 a1_1).bind fun bt605 => ((impl_CommonNeighbours.f k bt603.1 bt603.2 bt605.1 bt605.2).bind fun t607 => ((laws_eqSlopeS.f k t607 t589).bind fun t610 => (if t610 = true then ((laws_heldSlopeS.f k bt600.2 1).bind fun t611 => (if t611 < 0 then (none) else (if t611 = bt600.1 then (some true) else (none)))) else (none)))))) else (none))))) else (none)))))) = some r := H
  have A5 := Aside0.mk A50
  clear A50
  replace H := Option.bind_eq_some_iff.mp H
  obtain ⟨⟨t592, t593⟩, A60, H⟩ := H
  replace H : ((laws_toSlope.f a1_0 a1_1).bind fun bt594 => ((impl_CommonNeighbours.f k t592 t593 bt594.1 bt594.2).bind fun t596 => ((laws_eqSlopeS.f k t596 t589).bind fun t599 => (if t599 = true then ((laws_markSlopeS.f k t596 1).bind fun bt600 => ((laws_heldSlopeS.f k bt600.2 1).bind fun t602 => (if t602 < 0 then (none) else (if t602 = bt600.1 then ((laws_toSlope.f a0_0 a0_1).bind fun bt603 => ((laws_toSlope.f a1_0 a1_1).bind fun bt605 => ((impl_CommonNeighbours.f k bt603.1 bt603.2 bt605.1 bt605.2).bind fun t607 => ((laws_eqSlopeS.f k t607 t589).bind fun t610 => (if t610 = true then ((laws_heldSlopeS.f k bt600.2 1).bind fun t611 => (if t611 < 0 then (none) else (if t611 = bt600.1 then (some true) else (none)))) else (none)))))) else (none))))) else (none))))) = some r := H
  have A6 := Aside0.mk A60
  clear A60
  replace H := Option.bind_eq_some_iff.mp H
  obtain ⟨⟨t594, t595⟩, A70, H⟩ := H
  replace H : ((impl_CommonNeighbours.f k t592 t593 t594 t595).bind fun t596 => ((laws_eqSlopeS.f k t596 t589).bind fun t599 => (if t599 = true then ((laws_markSlopeS.f k t596 1).bind fun bt600 => ((laws_heldSlopeS.f k bt600.2 1).bind fun t602 => (if t602 < 0 then (none) else (if t602 = bt600.1 then ((laws_toSlope.f a0_0 a0_1).bind fun bt603 => ((laws_toSlope.f a1_0 a1_1).bind fun bt605 => ((impl_CommonNeighbours.f k bt603.1 bt603.2 bt605.1 bt605.2).bind fun t607 => ((laws_eqSlopeS.f k t607 t589).bind fun t610 => (if t610 = true then ((laws_heldSlopeS.f k bt600.2 1).bind fun t611 => (if t611 < 0 then (none) else (if t611 = bt600.1 then (some true) else (none)))) else (none)))))) else (none))))) else (none)))) = some r := H
  have A7 := Aside0.mk A70
  clear A70
  replace H := Option.bind_eq_some_iff.mp H
  obtain ⟨t596, A80, H⟩ := H
  replace H : ((laws_eqSlopeS.f k t596 t589).bind fun t599 => (if t599 = true then ((laws_markSlopeS.f k t596 1).bind fun bt600 => ((laws_heldSlopeS.f k bt600.2 1).bind fun t602 => (if t602 < 0 then (none) else (if t602 = bt600.1 then ((laws_toSlope.f a0_0 a0_1).bind fun bt603 => ((laws_toSlope.f a1_0 a1_1).bind fun bt605 => ((impl_CommonNeighbours.f k bt603.1 bt603.2 bt605.1 bt605.2).bind fun t607 => ((laws_eqSlopeS.f k t607 t589).bind fun t610 => (if t610 = true then ((laws_heldSlopeS.f k bt600.2 1).bind fun t611 => (if t611 < 0 then (none) else (if t611 = bt600.1 then (some true) else (none)))) else (none)))))) else (none))))) else (none))) = some r := H
  have A8 := Aside0.mk A80
  clear A80
  replace H := Option.bind_eq_some_iff.mp H
  obtain ⟨t599, A90, H⟩ := H
  replace H : (if t599 = true then ((laws_markSlopeS.f k t596 1).bind fun bt600 => ((laws_heldSlopeS.f k bt600.2 1).bind fun t602 => (if t602 < 0 then (none) else (if t602 = bt600.1 then ((laws_toSlope.f a0_0 a0_1).bind fun bt603 => ((laws_toSlope.f a1_0 a1_1).bind fun bt605 => ((impl_CommonNeighbours.f k bt603.1 bt603.2 bt605.1 bt605.2).bind fun t607 => ((laws_eqSlopeS.f k t607 t589).bind fun t610 => (if t610 = true then ((laws_heldSlopeS.f k bt600.2 1).bind fun t611 => (if t611 < 0 then (none) else (if t611 = bt600.1 then (some true) else (none)))) else (none)))))) else (none))))) else (none)) = some r := H
  have A9 := Aside0.mk A90
  clear A90
  by_cases c10 : t599 = true
  · subst c10
    have H1 : ((laws_markSlopeS.f k t596 1).bind fun bt600 => ((laws_heldSlopeS.f k bt600.2 1).bind fun t602 => (if t602 < 0 then (none) else (if t602 = bt600.1 then ((laws_toSlope.f a0_0 a0_1).bind fun bt603 => ((laws_toSlope.f a1_0 a1_1).bind fun bt605 => ((impl_CommonNeighbours.f k bt603.1 bt603.2 bt605.1 bt605.2).bind fun t607 => ((laws_eqSlopeS.f k t607 t589).bind fun t610 => (if t610 = true then ((laws_heldSlopeS.f k bt600.2 1).bind fun t611 => (if t611 < 0 then (none) else (if t611 = bt600.1 then (some true) else (none)))) else (none)))))) else (none))))) = some r := by rw [if_pos rfl] at H; exact H
    clear H
    have H := H1
    clear H1
    replace H := Option.bind_eq_some_iff.mp H
    obtain ⟨⟨t600, t601⟩, A110, H⟩ := H
    replace H : ((laws_heldSlopeS.f k t601 1).bind fun t602 => (if t602 < 0 then (none) else (if t602 = t600 then ((laws_toSlope.f a0_0 a0_1).bind fun bt603 => ((laws_toSlope.f a1_0 a1_1).bind fun bt605 => ((impl_CommonNeighbours.f k bt603.1 bt603.2 bt605.1 bt605.2).bind fun t607 => ((laws_eqSlopeS.f k t607 t589).bind fun t610 => (if t610 = true then ((laws_heldSlopeS.f k t601 1).bind fun t611 => (if t611 < 0 then (none) else (if t611 = t600 then (some true) else (none)))) else (none)))))) else (none)))) = some r := H
    have A11 := Aside0.mk A110
    clear A110
    replace H := Option.bind_eq_some_iff.mp H
    obtain ⟨t602, A120, H⟩ := H
    replace H : (if t602 < 0 then (none) else (if t602 = t600 then ((laws_toSlope.f a0_0 a0_1).bind fun bt603 => ((laws_toSlope.f a1_0 a1_1).bind fun bt605 => ((impl_CommonNeighbours.f k bt603.1 bt603.2 bt605.1 bt605.2).bind fun t607 => ((laws_eqSlopeS.f k t607 t589).bind fun t610 => (if t610 = true then ((laws_heldSlopeS.f k t601 1).bind fun t611 => (if t611 < 0 then (none) else (if t611 = t600 then (some true) else (none)))) else (none)))))) else (none))) = some r := H
    have A12 := Aside0.mk A120
    clear A120
    by_cases c13 : t602 < 0
    · rw [if_pos c13] at H
      exact absurd H (by simp)
    · rw [if_neg c13] at H
      have c13b0 : decide (t602 < 0) = false := decide_eq_false c13
      clear c13
      by_cases c14 : t602 = t600
      · rw [if_pos c14] at H
        have c14b0 : (t602 == t600) = true := beq_iff_eq.mpr c14
        have c14b1 : (t602 != t600) = false := bne_eq_false_iff_eq.mpr c14
        clear c14
        replace H := Option.bind_eq_some_iff.mp H
        obtain ⟨⟨t603, t604⟩, A150, H⟩ := H
        replace H : ((laws_toSlope.f a1_0 a1_1).bind fun bt605 => ((impl_CommonNeighbours.f k t603 t604 bt605.1 bt605.2).bind fun t607 => ((laws_eqSlopeS.f k t607 t589).bind fun t610 => (if t610 = true then ((laws_heldSlopeS.f k t601 1).bind fun t611 => (if t611 < 0 then (none) else (if t611 = t600 then (some true) else (none)))) else (none))))) = some r := H
        have A15 := Aside0.mk A150
        clear A150
        replace H := Option.bind_eq_some_iff.mp H
        obtain ⟨⟨t605, t606⟩, A160, H⟩ := H
        replace H : ((impl_CommonNeighbours.f k t603 t604 t605 t606).bind fun t607 => ((laws_eqSlopeS.f k t607 t589).bind fun t610 => (if t610 = true then ((laws_heldSlopeS.f k t601 1).bind fun t611 => (if t611 < 0 then (none) else (if t611 = t600 then (some true) else (none)))) else (none)))) = some r := H
        have A16 := Aside0.mk A160
        clear A160
        replace H := Option.bind_eq_some_iff.mp H
        obtain ⟨t607, A170, H⟩ := H
        replace H : ((laws_eqSlopeS.f k t607 t589).bind fun t610 => (if t610 = true then ((laws_heldSlopeS.f k t601 1).bind fun t611 => (if t611 < 0 then (none) else (if t611 = t600 then (some true) else (none)))) else (none))) = some r := H
        have A17 := Aside0.mk A170
        clear A170
        replace H := Option.bind_eq_some_iff.mp H
        obtain ⟨t610, A180, H⟩ := H
        replace H : (if t610 = true then ((laws_heldSlopeS.f k t601 1).bind fun t611 => (if t611 < 0 then (none) else (if t611 = t600 then (some true) else (none)))) else (none)) = some r := H
        have A18 := Aside0.mk A180
        clear A180
        by_cases c19 : t610 = true
        · subst c19
          have H1 : ((laws_heldSlopeS.f k t601 1).bind fun t611 => (if t611 < 0 then (none) else (if t611 = t600 then (some true) else (none)))) = some r := by rw [if_pos rfl] at H; exact H
          clear H
          have H := H1
          clear H1
          replace H := Option.bind_eq_some_iff.mp H
          obtain ⟨t611, A200, H⟩ := H
          replace H : (if t611 < 0 then (none) else (if t611 = t600 then (some true) else (none))) = some r := H
          have A20 := Aside0.mk A200
          clear A200
          by_cases c21 : t611 < 0
          · rw [if_pos c21] at H
            exact absurd H (by simp)
          · rw [if_neg c21] at H
            have c21b0 : decide (t611 < 0) = false := decide_eq_false c21
            clear c21
            by_cases c22 : t611 = t600
            · rw [if_pos c22] at H
              have c22b0 : (t611 == t600) = true := beq_iff_eq.mpr c22
              have c22b1 : (t611 != t600) = false := bne_eq_false_iff_eq.mpr c22
              clear c22
              obtain rfl := Option.some.inj H
              go_enter Try.func14, Try.ntmps14
              try go_wp2_with (first | ((with_reducible refine gate_dst (N := 2) rfl ?_); refine box_event ?hg (N := 2) ?hd (cs := #[.int .i64 a0_0, .int .i64 a0_1]) (t := 36) ?hr ?_; (case hd => rfl); (case hg => rfl); (case hr => first | (go_simp; done) | (go_simp; rfl)); intro gb583 hg w23 hbox hb; have n0_ := Aside0.mk (below_step (by repeat (first | (with_reducible first | exact HB.out | apply below_alloc | apply pw_below_drewN | apply below_drew1) | exact HB.out)) hb); have n1_ := Aside0.mk (hbox); have n2_ := Aside0.mk ((by rw [hg]; exact (below_size (by repeat (first | (with_reducible first | exact HB.out | apply below_alloc | apply pw_below_drewN | apply below_drew1) | exact HB.out))) : w.heap.size ≤ gb583)); have n3_ := Aside0.mk ((by rw [hg]; exact (below_size (by repeat (first | (with_reducible first | exact HB.out | apply below_alloc | apply pw_below_drewN | apply below_drew1) | exact HB.out))) : w.heap.size ≤ gb583)); clear HB; have HB := n0_; have BK583 := n1_; have GW583 := n2_; have GE583 := n3_; clear n0_ n1_ n2_ n3_; clear hb hbox hg) | ((with_reducible refine gate_dst (N := 3) rfl ?_); refine box_event ?hg (N := 3) ?hd (cs := #[.int .i64 a1_0, .int .i64 a1_1]) (t := 36) ?hr ?_; (case hd => rfl); (case hg => rfl); (case hr => first | (go_simp; done) | (go_simp; rfl)); intro gb584 hg w24 hbox hb; have n0_ := Aside0.mk (blk_below (g := gb583) (o := .cells #[.int .i64 a0_0, .int .i64 a0_1] 36 (0, 0)) (by (with_reducible repeat (first | refine blk_drewN ?_ _ | refine blk_drew ?_ | refine blk_alloc ?_ _)); exact BK583.out) hb); have n1_ := Aside0.mk (below_step (by repeat (first | (with_reducible first | exact HB.out | apply below_alloc | apply pw_below_drewN | apply below_drew1 | refine below_set ?_ GE583.out) | exact HB.out)) hb); have n2_ := Aside0.mk (hbox); have n3_ := Aside0.mk ((by rw [hg]; exact (below_size (by repeat (first | (with_reducible first | exact HB.out | apply below_alloc | apply pw_below_drewN | apply below_drew1 | refine below_set ?_ GE583.out) | exact HB.out))) : w.heap.size ≤ gb584)); have n4_ := Aside0.mk ((by rw [hg]; exact (below_size (by repeat (first | (with_reducible first | exact HB.out | apply below_alloc | apply pw_below_drewN | apply below_drew1 | refine below_set ?_ GE583.out) | exact HB.out))) : w.heap.size ≤ gb584)); have n5_ := Aside0.mk ((by rw [hg]; exact Nat.ne_of_lt (blk_lt (g := gb583) (o := .cells #[.int .i64 a0_0, .int .i64 a0_1] 36 (0, 0)) (by (with_reducible repeat (first | refine blk_drewN ?_ _ | refine blk_drew ?_ | refine blk_alloc ?_ _)); exact BK583.out)) : gb583 ≠ gb584)); have n6_ := Aside0.mk ((by rw [hg]; exact Nat.ne_of_gt (blk_lt (g := gb583) (o := .cells #[.int .i64 a0_0, .int .i64 a0_1] 36 (0, 0)) (by (with_reducible repeat (first | refine blk_drewN ?_ _ | refine blk_drew ?_ | refine blk_alloc ?_ _)); exact BK583.out)) : gb584 ≠ gb583)); clear BK583; clear HB; have BK583 := n0_; have HB := n1_; have BK584 := n2_; have GW584 := n3_; have GE584 := n4_; have NB583_584 := n5_; have NB584_583 := n6_; clear n0_ n1_ n2_ n3_ n4_ n5_ n6_; clear hb hbox hg))
              have n0_ := Aside0.mk (blk_drew BK583.out)
              have n1_ := Aside0.mk (blk_drew BK584.out)
              have n2_ := Aside0.mk (below_drew1 HB.out)
              clear BK583
              clear BK584
              clear HB
              have BK583 := n0_
              have BK584 := n1_
              have HB := n2_
              clear n0_ n1_ n2_
              refine start_ (n := 6) (S := fun w' => w'.cell? ⟨gb583, 0, none⟩ = some (.int .i64 a0_0) ∧ w'.cell? ⟨gb583, 1, none⟩ = some (.int .i64 a0_1) ∧ w'.cell? ⟨gb584, 0, none⟩ = some (.int .i64 a1_0) ∧ w'.cell? ⟨gb584, 1, none⟩ = some (.int .i64 a1_1)) (ds := []) #[false, false, false, false, false, false] (by kernel_rfl) rfl rfl ⟨(blk_cell BK583.out 0).trans rfl, (blk_cell BK583.out 1).trans rfl, (blk_cell BK584.out 0).trans rfl, (blk_cell BK584.out 1).trans rfl⟩ (fun hHeld => ?_)
              generalize w24.drew = w25 at BK583 BK584 HB hHeld ⊢
              refine take_ (i := 0) (N := some 10) (v := ?_) (a' := ?_) #[true, false, false, false, false, false] rfl rfl (by kernel_rfl) (fun _ _ _ h => h) (Or.inl ⟨by rfl, ?_⟩) hHeld ?_ ?_
              rotate_left
              · rintro w' ⟨s0, s1, s2, s3⟩
                go_simp
                with_reducible rfl
              rotate_left
              · simp only [Act.put, List.setIfInBounds_toArray, List.set_cons_zero, List.set_cons_succ, i64_w, i32_w]
                rfl
              refine take_ (i := 2) (N := some 12) (v := ?_) (a' := ?_) #[true, false, true, false, false, false] rfl rfl (by kernel_rfl) (fun _ _ _ h => h) (Or.inl ⟨by rfl, ?_⟩) hHeld ?_ ?_
              rotate_left
              · rintro w' ⟨s0, s1, s2, s3⟩
                go_simp
                with_reducible rfl
              rotate_left
              · simp only [Act.put, List.setIfInBounds_toArray, List.set_cons_zero, List.set_cons_succ, i64_w, i32_w]
                rfl
              refine one_ (i := 1) (N := some 11) #[true, true, true, false, false, false] rfl rfl (by kernel_rfl) (by decide) (fun K hK => ?_)
              refine goes_ Try.func30 (by kernel_rfl) rfl #[.agg #[.int .i64 a0_0, .int .i64 a0_1]] (by rfl) rfl rfl (by (try simp only [List.map_toArray, List.map_cons, List.map_nil]); first | done | rfl | (simp only [List.length_drop, List.length_take]; rfl)) ?_
              with_reducible refine (laws_toSlope.calls a0_0 a0_1 t585 t586 _ A3.out).mono ?_
              rintro e w26 ⟨rfl, hb⟩
              refine ⟨_, rfl, ?_⟩
              have n0_ := Aside0.mk (blk_below (g := gb583) (o := .cells #[.int .i64 a0_0, .int .i64 a0_1] 36 (0, 0)) (by (with_reducible repeat (first | refine blk_drewN ?_ _ | refine blk_drew ?_ | refine blk_alloc ?_ _)); exact BK583.out) hb)
              have n1_ := Aside0.mk (blk_below (g := gb584) (o := .cells #[.int .i64 a1_0, .int .i64 a1_1] 36 (0, 0)) (by (with_reducible repeat (first | refine blk_drewN ?_ _ | refine blk_drew ?_ | refine blk_alloc ?_ _)); exact BK584.out) hb)
              have n2_ := Aside0.mk (below_step (by repeat (first | (with_reducible first | exact HB.out | apply below_alloc | apply pw_below_drewN | apply below_drew1 | refine below_set ?_ GE583.out | refine below_set ?_ GE584.out) | exact HB.out)) hb)
              clear BK583
              clear BK584
              clear HB
              have BK583 := n0_
              have BK584 := n1_
              have HB := n2_
              clear n0_ n1_ n2_
              (try clear hb)
              (try clear hb2)
              (try clear hk)
              (try clear hi)
              refine hK.out _ _ ⟨(blk_cell BK583.out 0).trans rfl, (blk_cell BK583.out 1).trans rfl, (blk_cell BK584.out 0).trans rfl, (blk_cell BK584.out 1).trans rfl⟩ (fun hHeld => ?_)
              clear hK K
              refine norm_ (a' := ?_) ?_ ?_
              rotate_left
              · show Act.put _ (some 11) _ = _
                simp only [Act.put, List.setIfInBounds_toArray, List.set_cons_zero, List.set_cons_succ, i64_w, i32_w]
                rfl
              refine one_ (i := 3) (N := some 13) #[true, true, true, true, false, false] rfl rfl (by kernel_rfl) (by decide) (fun K hK => ?_)
              refine goes_ Try.func30 (by kernel_rfl) rfl #[.agg #[.int .i64 a1_0, .int .i64 a1_1]] (by rfl) rfl rfl (by (try simp only [List.map_toArray, List.map_cons, List.map_nil]); first | done | rfl | (simp only [List.length_drop, List.length_take]; rfl)) ?_
              with_reducible refine (laws_toSlope.calls a1_0 a1_1 t587 t588 _ A4.out).mono ?_
              rintro e w27 ⟨rfl, hb⟩
              refine ⟨_, rfl, ?_⟩
              have n0_ := Aside0.mk (blk_below (g := gb583) (o := .cells #[.int .i64 a0_0, .int .i64 a0_1] 36 (0, 0)) (by (with_reducible repeat (first | refine blk_drewN ?_ _ | refine blk_drew ?_ | refine blk_alloc ?_ _)); exact BK583.out) hb)
              have n1_ := Aside0.mk (blk_below (g := gb584) (o := .cells #[.int .i64 a1_0, .int .i64 a1_1] 36 (0, 0)) (by (with_reducible repeat (first | refine blk_drewN ?_ _ | refine blk_drew ?_ | refine blk_alloc ?_ _)); exact BK584.out) hb)
              have n2_ := Aside0.mk (below_step (by repeat (first | (with_reducible first | exact HB.out | apply below_alloc | apply pw_below_drewN | apply below_drew1 | refine below_set ?_ GE583.out | refine below_set ?_ GE584.out) | exact HB.out)) hb)
              clear BK583
              clear BK584
              clear HB
              have BK583 := n0_
              have BK584 := n1_
              have HB := n2_
              clear n0_ n1_ n2_
              (try clear hb)
              (try clear hb2)
              (try clear hk)
              (try clear hi)
              refine hK.out _ _ ⟨(blk_cell BK583.out 0).trans rfl, (blk_cell BK583.out 1).trans rfl, (blk_cell BK584.out 0).trans rfl, (blk_cell BK584.out 1).trans rfl⟩ (fun hHeld => ?_)
              clear hK K
              refine norm_ (a' := ?_) ?_ ?_
              rotate_left
              · show Act.put _ (some 13) _ = _
                simp only [Act.put, List.setIfInBounds_toArray, List.set_cons_zero, List.set_cons_succ, i64_w, i32_w]
                rfl
              refine one_ (i := 4) (N := some 14) #[true, true, true, true, true, false] rfl rfl (by kernel_rfl) (by decide) (fun K hK => ?_)
              refine goes_ Try.func44 (by kernel_rfl) rfl #[.agg #[.int .i64 t585, .int .i64 t586], .agg #[.int .i64 t587, .int .i64 t588]] (by rfl) rfl rfl (by (try simp only [List.map_toArray, List.map_cons, List.map_nil]); first | done | rfl | (simp only [List.length_drop, List.length_take]; rfl)) ?_
              with_reducible refine (spec_CommonNeighbours.calls k t585 t586 t587 t588 t589 _ A5.out).mono ?_
              rintro e w28 ⟨v590, rfl, ho0, hb⟩
              refine ⟨_, rfl, ?_⟩
              have n0_ := Aside0.mk (Kd.R_lower ho0 (below_size (by repeat (first | (with_reducible first | exact HB.out | apply below_alloc | apply pw_below_drewN | apply below_drew1 | refine below_set ?_ GE583.out | refine below_set ?_ GE584.out) | exact HB.out))))
              have n1_ := Aside0.mk (blk_below (g := gb583) (o := .cells #[.int .i64 a0_0, .int .i64 a0_1] 36 (0, 0)) (by (with_reducible repeat (first | refine blk_drewN ?_ _ | refine blk_drew ?_ | refine blk_alloc ?_ _)); exact BK583.out) hb)
              have n2_ := Aside0.mk (blk_below (g := gb584) (o := .cells #[.int .i64 a1_0, .int .i64 a1_1] 36 (0, 0)) (by (with_reducible repeat (first | refine blk_drewN ?_ _ | refine blk_drew ?_ | refine blk_alloc ?_ _)); exact BK584.out) hb)
              have n3_ := Aside0.mk (below_step (by repeat (first | (with_reducible first | exact HB.out | apply below_alloc | apply pw_below_drewN | apply below_drew1 | refine below_set ?_ GE583.out | refine below_set ?_ GE584.out) | exact HB.out)) hb)
              clear BK583
              clear BK584
              clear HB
              have HO591 := n0_
              have BK583 := n1_
              have BK584 := n2_
              have HB := n3_
              clear n0_ n1_ n2_ n3_
              (try clear hb)
              (try clear hb2)
              (try clear hk)
              (try clear hi)
              (try clear ho0)
              refine hK.out _ _ ⟨(blk_cell BK583.out 0).trans rfl, (blk_cell BK583.out 1).trans rfl, (blk_cell BK584.out 0).trans rfl, (blk_cell BK584.out 1).trans rfl⟩ (fun hHeld => ?_)
              clear hK K
              refine norm_ (a' := ?_) ?_ ?_
              rotate_left
              · show Act.put _ (some 14) _ = _
                simp only [Act.put, List.setIfInBounds_toArray, List.set_cons_zero, List.set_cons_succ, i64_w, i32_w]
                rfl
              refine pure_ (i := 5) (N := some 5) (v := ?_) (a' := ?_) #[true, true, true, true, true, true] rfl rfl (by kernel_rfl) (fun _ _ _ h => h) (Or.inl ⟨by rfl, ?_⟩) ?_ ?_
              rotate_left
              · intro w'
                go_simp
                with_reducible rfl
              rotate_left
              · simp only [Act.put, List.setIfInBounds_toArray, List.set_cons_zero, List.set_cons_succ, i64_w, i32_w]
                rfl
              refine done_ (by kernel_rfl) ?_
              try go_wp2
              have n0_ := Aside0.mk (Kd.R_drew HO591.out)
              have n1_ := Aside0.mk (blk_drew BK583.out)
              have n2_ := Aside0.mk (blk_drew BK584.out)
              have n3_ := Aside0.mk (below_drew1 HB.out)
              clear HO591
              clear BK583
              clear BK584
              clear HB
              have HO591 := n0_
              have BK583 := n1_
              have BK584 := n2_
              have HB := n3_
              clear n0_ n1_ n2_ n3_
              refine start_ (n := 6) (S := fun w' => w'.cell? ⟨gb583, 0, none⟩ = some (.int .i64 a0_0) ∧ w'.cell? ⟨gb583, 1, none⟩ = some (.int .i64 a0_1) ∧ w'.cell? ⟨gb584, 0, none⟩ = some (.int .i64 a1_0) ∧ w'.cell? ⟨gb584, 1, none⟩ = some (.int .i64 a1_1)) (ds := []) #[false, false, false, false, false, false] (by kernel_rfl) rfl rfl ⟨(blk_cell BK583.out 0).trans rfl, (blk_cell BK583.out 1).trans rfl, (blk_cell BK584.out 0).trans rfl, (blk_cell BK584.out 1).trans rfl⟩ (fun hHeld => ?_)
              generalize w28.drew = w29 at HO591 BK583 BK584 HB hHeld ⊢
              refine take_ (i := 0) (N := some 15) (v := ?_) (a' := ?_) #[true, false, false, false, false, false] rfl rfl (by kernel_rfl) (fun _ _ _ h => h) (Or.inl ⟨by rfl, ?_⟩) hHeld ?_ ?_
              rotate_left
              · rintro w' ⟨s0, s1, s2, s3⟩
                go_simp
                with_reducible rfl
              rotate_left
              · simp only [Act.put, List.setIfInBounds_toArray, List.set_cons_zero, List.set_cons_succ, i64_w, i32_w]
                rfl
              refine take_ (i := 2) (N := some 17) (v := ?_) (a' := ?_) #[true, false, true, false, false, false] rfl rfl (by kernel_rfl) (fun _ _ _ h => h) (Or.inl ⟨by rfl, ?_⟩) hHeld ?_ ?_
              rotate_left
              · rintro w' ⟨s0, s1, s2, s3⟩
                go_simp
                with_reducible rfl
              rotate_left
              · simp only [Act.put, List.setIfInBounds_toArray, List.set_cons_zero, List.set_cons_succ, i64_w, i32_w]
                rfl
              refine one_ (i := 1) (N := some 16) #[true, true, true, false, false, false] rfl rfl (by kernel_rfl) (by decide) (fun K hK => ?_)
              refine goes_ Try.func30 (by kernel_rfl) rfl #[.agg #[.int .i64 a0_0, .int .i64 a0_1]] (by rfl) rfl rfl (by (try simp only [List.map_toArray, List.map_cons, List.map_nil]); first | done | rfl | (simp only [List.length_drop, List.length_take]; rfl)) ?_
              with_reducible refine (laws_toSlope.calls a0_0 a0_1 t592 t593 _ A6.out).mono ?_
              rintro e w30 ⟨rfl, hb⟩
              refine ⟨_, rfl, ?_⟩
              have n0_ := Aside0.mk (Kd.R_below (by (with_reducible repeat (first | apply Kd.R_alloc | apply Kd.R_drewN | apply Kd.R_drew)); exact HO591.out) hb)
              have n1_ := Aside0.mk (blk_below (g := gb583) (o := .cells #[.int .i64 a0_0, .int .i64 a0_1] 36 (0, 0)) (by (with_reducible repeat (first | refine blk_drewN ?_ _ | refine blk_drew ?_ | refine blk_alloc ?_ _)); exact BK583.out) hb)
              have n2_ := Aside0.mk (blk_below (g := gb584) (o := .cells #[.int .i64 a1_0, .int .i64 a1_1] 36 (0, 0)) (by (with_reducible repeat (first | refine blk_drewN ?_ _ | refine blk_drew ?_ | refine blk_alloc ?_ _)); exact BK584.out) hb)
              have n3_ := Aside0.mk (below_step (by repeat (first | (with_reducible first | exact HB.out | apply below_alloc | apply pw_below_drewN | apply below_drew1 | refine below_set ?_ GE583.out | refine below_set ?_ GE584.out) | exact HB.out)) hb)
              clear HO591
              clear BK583
              clear BK584
              clear HB
              have HO591 := n0_
              have BK583 := n1_
              have BK584 := n2_
              have HB := n3_
              clear n0_ n1_ n2_ n3_
              (try clear hb)
              (try clear hb2)
              (try clear hk)
              (try clear hi)
              refine hK.out _ _ ⟨(blk_cell BK583.out 0).trans rfl, (blk_cell BK583.out 1).trans rfl, (blk_cell BK584.out 0).trans rfl, (blk_cell BK584.out 1).trans rfl⟩ (fun hHeld => ?_)
              clear hK K
              refine norm_ (a' := ?_) ?_ ?_
              rotate_left
              · show Act.put _ (some 16) _ = _
                simp only [Act.put, List.setIfInBounds_toArray, List.set_cons_zero, List.set_cons_succ, i64_w, i32_w]
                rfl
              refine one_ (i := 3) (N := some 18) #[true, true, true, true, false, false] rfl rfl (by kernel_rfl) (by decide) (fun K hK => ?_)
              refine goes_ Try.func30 (by kernel_rfl) rfl #[.agg #[.int .i64 a1_0, .int .i64 a1_1]] (by rfl) rfl rfl (by (try simp only [List.map_toArray, List.map_cons, List.map_nil]); first | done | rfl | (simp only [List.length_drop, List.length_take]; rfl)) ?_
              with_reducible refine (laws_toSlope.calls a1_0 a1_1 t594 t595 _ A7.out).mono ?_
              rintro e w31 ⟨rfl, hb⟩
              refine ⟨_, rfl, ?_⟩
              have n0_ := Aside0.mk (Kd.R_below (by (with_reducible repeat (first | apply Kd.R_alloc | apply Kd.R_drewN | apply Kd.R_drew)); exact HO591.out) hb)
              have n1_ := Aside0.mk (blk_below (g := gb583) (o := .cells #[.int .i64 a0_0, .int .i64 a0_1] 36 (0, 0)) (by (with_reducible repeat (first | refine blk_drewN ?_ _ | refine blk_drew ?_ | refine blk_alloc ?_ _)); exact BK583.out) hb)
              have n2_ := Aside0.mk (blk_below (g := gb584) (o := .cells #[.int .i64 a1_0, .int .i64 a1_1] 36 (0, 0)) (by (with_reducible repeat (first | refine blk_drewN ?_ _ | refine blk_drew ?_ | refine blk_alloc ?_ _)); exact BK584.out) hb)
              have n3_ := Aside0.mk (below_step (by repeat (first | (with_reducible first | exact HB.out | apply below_alloc | apply pw_below_drewN | apply below_drew1 | refine below_set ?_ GE583.out | refine below_set ?_ GE584.out) | exact HB.out)) hb)
              clear HO591
              clear BK583
              clear BK584
              clear HB
              have HO591 := n0_
              have BK583 := n1_
              have BK584 := n2_
              have HB := n3_
              clear n0_ n1_ n2_ n3_
              (try clear hb)
              (try clear hb2)
              (try clear hk)
              (try clear hi)
              refine hK.out _ _ ⟨(blk_cell BK583.out 0).trans rfl, (blk_cell BK583.out 1).trans rfl, (blk_cell BK584.out 0).trans rfl, (blk_cell BK584.out 1).trans rfl⟩ (fun hHeld => ?_)
              clear hK K
              refine norm_ (a' := ?_) ?_ ?_
              rotate_left
              · show Act.put _ (some 18) _ = _
                simp only [Act.put, List.setIfInBounds_toArray, List.set_cons_zero, List.set_cons_succ, i64_w, i32_w]
                rfl
              refine one_ (i := 4) (N := some 19) #[true, true, true, true, true, false] rfl rfl (by kernel_rfl) (by decide) (fun K hK => ?_)
              refine goes_ Try.func45 (by kernel_rfl) rfl #[.agg #[.int .i64 t592, .int .i64 t593], .agg #[.int .i64 t594, .int .i64 t595]] (by rfl) rfl rfl (by (try simp only [List.map_toArray, List.map_cons, List.map_nil]); first | done | rfl | (simp only [List.length_drop, List.length_take]; rfl)) ?_
              with_reducible refine (impl_CommonNeighbours.calls k t592 t593 t594 t595 t596 _ A8.out).mono ?_
              rintro e w32 ⟨v597, rfl, ho0, hb⟩
              refine ⟨_, rfl, ?_⟩
              have n0_ := Aside0.mk (Kd.R_elder' (by (with_reducible repeat (first | apply Kd.R_alloc | apply Kd.R_drewN | apply Kd.R_drew)); exact HO591.out) (Kd.R_base ho0) hb)
              have n1_ := Aside0.mk (Kd.R_lower (Kd.R_new' ho0 (Kd.R_lt (by (with_reducible repeat (first | apply Kd.R_alloc | apply Kd.R_drewN | apply Kd.R_drew)); exact HO591.out))) (below_size (by repeat (first | (with_reducible first | exact HB.out | apply below_alloc | apply pw_below_drewN | apply below_drew1 | refine below_set ?_ GE583.out | refine below_set ?_ GE584.out) | exact HB.out))))
              have n2_ := Aside0.mk (blk_below (g := gb583) (o := .cells #[.int .i64 a0_0, .int .i64 a0_1] 36 (0, 0)) (by (with_reducible repeat (first | refine blk_drewN ?_ _ | refine blk_drew ?_ | refine blk_alloc ?_ _)); exact BK583.out) hb)
              have n3_ := Aside0.mk (blk_below (g := gb584) (o := .cells #[.int .i64 a1_0, .int .i64 a1_1] 36 (0, 0)) (by (with_reducible repeat (first | refine blk_drewN ?_ _ | refine blk_drew ?_ | refine blk_alloc ?_ _)); exact BK584.out) hb)
              have n4_ := Aside0.mk (below_step (by repeat (first | (with_reducible first | exact HB.out | apply below_alloc | apply pw_below_drewN | apply below_drew1 | refine below_set ?_ GE583.out | refine below_set ?_ GE584.out) | exact HB.out)) hb)
              clear HO591
              clear BK583
              clear BK584
              clear HB
              have HO591 := n0_
              have HO598 := n1_
              have BK583 := n2_
              have BK584 := n3_
              have HB := n4_
              clear n0_ n1_ n2_ n3_ n4_
              (try clear hb)
              (try clear hb2)
              (try clear hk)
              (try clear hi)
              (try clear ho0)
              refine hK.out _ _ ⟨(blk_cell BK583.out 0).trans rfl, (blk_cell BK583.out 1).trans rfl, (blk_cell BK584.out 0).trans rfl, (blk_cell BK584.out 1).trans rfl⟩ (fun hHeld => ?_)
              clear hK K
              refine norm_ (a' := ?_) ?_ ?_
              rotate_left
              · show Act.put _ (some 19) _ = _
                simp only [Act.put, List.setIfInBounds_toArray, List.set_cons_zero, List.set_cons_succ, i64_w, i32_w]
                rfl
              refine pure_ (i := 5) (N := some 6) (v := ?_) (a' := ?_) #[true, true, true, true, true, true] rfl rfl (by kernel_rfl) (fun _ _ _ h => h) (Or.inl ⟨by rfl, ?_⟩) ?_ ?_
              rotate_left
              · intro w'
                go_simp
                with_reducible rfl
              rotate_left
              · simp only [Act.put, List.setIfInBounds_toArray, List.set_cons_zero, List.set_cons_succ, i64_w, i32_w]
                rfl
              refine done_ (by kernel_rfl) ?_
              obtain ⟨Ao33, co33, eo33⟩ := Kd.R_slice HO598.out
              subst eo33
              obtain ⟨Ao34, co34, eo34⟩ := Kd.R_slice HO591.out
              subst eo34
              try go_wp2_with (first | ((with_reducible refine gate_callee (f := 39) rfl ?_); refine goesL_ (some 22) rfl rfl Try.func39 (by kernel_rfl) rfl #[.slice Ao33 t596.length co33, .slice Ao34 t589.length co34] rfl (by (try simp only [List.map_toArray, List.map_cons, List.map_nil]); first | done | rfl | (simp only [List.length_drop, List.length_take]; rfl)) ?_; (with_reducible refine (laws_eqSlopeS.calls k _ _ t596 _ _ t589 true _ ?side1 ?side2 ?side3 ?side4 A9.out).mono ?_); (case side1 => repeat (first | exact (Kd.R_reads' HO598.out).2.2 | (with_reducible refine Kd.C_alloc ?_ _) | (with_reducible refine Kd.C_drewN ?_ _) | (with_reducible refine Kd.C_drew ?_))); (case side2 => exact (Kd.R_reads' HO598.out).2.1); (case side3 => repeat (first | exact (Kd.R_reads' HO591.out).2.2 | (with_reducible refine Kd.C_alloc ?_ _) | (with_reducible refine Kd.C_drewN ?_ _) | (with_reducible refine Kd.C_drew ?_))); (case side4 => exact (Kd.R_reads' HO591.out).2.1); rintro e w35 ⟨rfl, hb⟩; refine ⟨_, rfl, ?_⟩; have n0_ := Aside0.mk (Kd.R_below (by (with_reducible repeat (first | apply Kd.R_alloc | apply Kd.R_drewN | apply Kd.R_drew)); exact HO591.out) hb); have n1_ := Aside0.mk (Kd.R_below (by (with_reducible repeat (first | apply Kd.R_alloc | apply Kd.R_drewN | apply Kd.R_drew)); exact HO598.out) hb); have n2_ := Aside0.mk (blk_below (g := gb583) (o := .cells #[.int .i64 a0_0, .int .i64 a0_1] 36 (0, 0)) (by (with_reducible repeat (first | refine blk_drewN ?_ _ | refine blk_drew ?_ | refine blk_alloc ?_ _)); exact BK583.out) hb); have n3_ := Aside0.mk (blk_below (g := gb584) (o := .cells #[.int .i64 a1_0, .int .i64 a1_1] 36 (0, 0)) (by (with_reducible repeat (first | refine blk_drewN ?_ _ | refine blk_drew ?_ | refine blk_alloc ?_ _)); exact BK584.out) hb); have n4_ := Aside0.mk (below_step (by repeat (first | (with_reducible first | exact HB.out | apply below_alloc | apply pw_below_drewN | apply below_drew1 | refine below_set ?_ GE583.out | refine below_set ?_ GE584.out) | exact HB.out)) hb); clear HO591; clear HO598; clear BK583; clear BK584; clear HB; have HO591 := n0_; have HO598 := n1_; have BK583 := n2_; have BK584 := n3_; have HB := n4_; clear n0_ n1_ n2_ n3_ n4_; (try clear hb); (try clear hb2); (try clear hk); (try clear hi)) | ((with_reducible refine gate_callee (f := 40) rfl ?_); refine goesL_ (some 26) rfl rfl Try.func40 (by kernel_rfl) rfl #[.slice Ao33 t596.length co33, .int .i64 1] rfl (by (try simp only [List.map_toArray, List.map_cons, List.map_nil]); first | done | rfl | (simp only [List.length_drop, List.length_take]; rfl)) ?_; (with_reducible refine (laws_markSlopeS.calls k (fun k_ => some k_ = (.slice Ao33 t596.length co33 : Value).ownBlock) (.slice Ao33 t596.length co33) t596 1 t600 t601 w _ ?side1 ?side2 A11.out).mono ?_); (case side1 => repeat (first | (with_reducible first | exact HB.out | apply below_alloc | apply pw_below_drewN | apply below_drew1 | refine below_set ?_ GE583.out | refine below_set ?_ GE584.out) | exact HB.out)); (case side2 => exact Kd.R_tight rfl HO598.out); rintro e w36 ⟨rfl, hy0, hb, hkp⟩; refine ⟨_, rfl, ?_⟩; have n0_ := Aside0.mk (blk_kept (by (with_reducible repeat (first | refine blk_drewN ?_ _ | refine blk_drew ?_ | refine blk_alloc ?_ _)); exact BK583.out) hkp (fun hs_ => (fun e_ => (Kd.R_ne HO598.out BK583.out (by decide)) e_) hs_)); have n1_ := Aside0.mk (blk_kept (by (with_reducible repeat (first | refine blk_drewN ?_ _ | refine blk_drew ?_ | refine blk_alloc ?_ _)); exact BK584.out) hkp (fun hs_ => (fun e_ => (Kd.R_ne HO598.out BK584.out (by decide)) e_) hs_)); have n2_ := Aside0.mk (Kd.R_mono (ok' := fun k_ => some k_ ≠ (.slice Ao33 t596.length co33 : Value).ownBlock) (Kd.R_keptB (HO591.out) hkp (fun k_ hk_ hs_ => (hk_.2) hs_)) (fun k_ hk_ => hk_.1.2)); have n3_ := Aside0.mk (Kd.R_reok rfl hy0 (fun k_ e_ => HO598.out.1 k_ e_)); have n4_ := Aside0.mk (hb); clear BK583; clear BK584; clear HO591; clear HO598; clear HB; have BK583 := n0_; have BK584 := n1_; have HO591 := n2_; have HO598 := n3_; have HB := n4_; clear n0_ n1_ n2_ n3_ n4_; (try clear hb); (try clear hkp); (try clear hy0)) | ((with_reducible refine gate_callee (f := 41) rfl ?_); refine goesL_ (some 29) rfl rfl Try.func41 (by kernel_rfl) rfl #[.slice Ao33 t601.length co33, .int .i64 1] rfl (by (try simp only [List.map_toArray, List.map_cons, List.map_nil]); first | done | (rw [show t601.length = t596.length from (Kd.R_reads' HO598.out).1.symm] <;> rfl) | rfl | (simp only [List.length_drop, List.length_take]; rfl)) ?_; (with_reducible refine (laws_heldSlopeS.calls k _ _ t601 1 t602 _ ?side1 ?side2 A12.out).mono ?_); (case side1 => repeat (first | exact (Kd.R_reads' HO598.out).2.2 | (with_reducible refine Kd.C_alloc ?_ _) | (with_reducible refine Kd.C_drewN ?_ _) | (with_reducible refine Kd.C_drew ?_))); (case side2 => rw [show t601.length = t596.length from (Kd.R_reads' HO598.out).1.symm]; exact (Kd.R_reads' HO598.out).2.1); rintro e w' ⟨rfl, ⟨nd, rfl⟩⟩; refine ⟨_, rfl, ?_⟩))
              (try (rw [drewN_self w36]; generalize hq_ : World.drewN w36 _ = w36; have n0_ : Aside0 (Kd.R k38 38 w36 w.heap.size (fun k_ => some k_ ≠ (.slice Ao33 t596.length co33 : Value).ownBlock) (.slice Ao34 t589.length co34) t589) := ⟨by rw [← hq_]; exact (by (with_reducible repeat (first | apply Kd.R_alloc | apply Kd.R_drewN | apply Kd.R_drew)); exact HO591.out)⟩; have n1_ : Aside0 (Kd.R k38 38 w36 w.heap.size (fun k_ => some k_ ≠ (.slice Ao34 t589.length co34 : Value).ownBlock) (.slice Ao33 t596.length co33) t601) := ⟨by rw [← hq_]; exact (by (with_reducible repeat (first | apply Kd.R_alloc | apply Kd.R_drewN | apply Kd.R_drew)); exact Kd.R_mono HO598.out (fun _ hk => hk.2))⟩; have n2_ : Aside0 (w36.heap[gb583]? = some (.cells #[.int .i64 a0_0, .int .i64 a0_1] 36 (0, 0))) := ⟨by rw [← hq_]; exact (by (with_reducible repeat (first | refine blk_drewN ?_ _ | refine blk_drew ?_ | refine blk_alloc ?_ _)); exact BK583.out)⟩; have n3_ : Aside0 (w36.heap[gb584]? = some (.cells #[.int .i64 a1_0, .int .i64 a1_1] 36 (0, 0))) := ⟨by rw [← hq_]; exact (by (with_reducible repeat (first | refine blk_drewN ?_ _ | refine blk_drew ?_ | refine blk_alloc ?_ _)); exact BK584.out)⟩; have n4_ : Aside0 (Below w.heap.size w w36) := ⟨by rw [← hq_]; exact (by repeat (first | (with_reducible first | exact HB.out | apply below_alloc | apply pw_below_drewN | apply below_drew1 | refine below_set ?_ GE583.out | refine below_set ?_ GE584.out) | exact HB.out))⟩; clear HO591 HO598 BK583 BK584 HB hq_; have HO591 := n0_; have HO598 := n1_; have BK583 := n2_; have BK584 := n3_; have HB := n4_; clear n0_ n1_ n2_ n3_ n4_))
              have n0_ := Aside0.mk (Kd.R_drew HO591.out)
              have n1_ := Aside0.mk (Kd.R_drew HO598.out)
              have n2_ := Aside0.mk (blk_drew BK583.out)
              have n3_ := Aside0.mk (blk_drew BK584.out)
              have n4_ := Aside0.mk (below_drew1 HB.out)
              clear HO591
              clear HO598
              clear BK583
              clear BK584
              clear HB
              have HO591 := n0_
              have HO598 := n1_
              have BK583 := n2_
              have BK584 := n3_
              have HB := n4_
              clear n0_ n1_ n2_ n3_ n4_
              refine start_ (n := 6) (S := fun w' => w'.cell? ⟨gb583, 0, none⟩ = some (.int .i64 a0_0) ∧ w'.cell? ⟨gb583, 1, none⟩ = some (.int .i64 a0_1) ∧ w'.cell? ⟨gb584, 0, none⟩ = some (.int .i64 a1_0) ∧ w'.cell? ⟨gb584, 1, none⟩ = some (.int .i64 a1_1)) (ds := []) #[false, false, false, false, false, false] (by kernel_rfl) rfl rfl ⟨(blk_cell BK583.out 0).trans rfl, (blk_cell BK583.out 1).trans rfl, (blk_cell BK584.out 0).trans rfl, (blk_cell BK584.out 1).trans rfl⟩ (fun hHeld => ?_)
              generalize w36.drew = w37 at HO591 HO598 BK583 BK584 HB hHeld ⊢
              refine take_ (i := 0) (N := some 35) (v := ?_) (a' := ?_) #[true, false, false, false, false, false] rfl rfl (by kernel_rfl) (fun _ _ _ h => h) (Or.inl ⟨by rfl, ?_⟩) hHeld ?_ ?_
              rotate_left
              · rintro w' ⟨s0, s1, s2, s3⟩
                go_simp
                with_reducible rfl
              rotate_left
              · simp only [Act.put, List.setIfInBounds_toArray, List.set_cons_zero, List.set_cons_succ, i64_w, i32_w]
                rfl
              refine take_ (i := 2) (N := some 37) (v := ?_) (a' := ?_) #[true, false, true, false, false, false] rfl rfl (by kernel_rfl) (fun _ _ _ h => h) (Or.inl ⟨by rfl, ?_⟩) hHeld ?_ ?_
              rotate_left
              · rintro w' ⟨s0, s1, s2, s3⟩
                go_simp
                with_reducible rfl
              rotate_left
              · simp only [Act.put, List.setIfInBounds_toArray, List.set_cons_zero, List.set_cons_succ, i64_w, i32_w]
                rfl
              refine one_ (i := 1) (N := some 36) #[true, true, true, false, false, false] rfl rfl (by kernel_rfl) (by decide) (fun K hK => ?_)
              refine goes_ Try.func30 (by kernel_rfl) rfl #[.agg #[.int .i64 a0_0, .int .i64 a0_1]] (by rfl) rfl rfl (by (try simp only [List.map_toArray, List.map_cons, List.map_nil]); first | done | rfl | (simp only [List.length_drop, List.length_take]; rfl)) ?_
              with_reducible refine (laws_toSlope.calls a0_0 a0_1 t603 t604 _ A15.out).mono ?_
              rintro e w38 ⟨rfl, hb⟩
              refine ⟨_, rfl, ?_⟩
              have n0_ := Aside0.mk (Kd.R_below (by (with_reducible repeat (first | apply Kd.R_alloc | apply Kd.R_drewN | apply Kd.R_drew)); exact HO591.out) hb)
              have n1_ := Aside0.mk (Kd.R_below (by (with_reducible repeat (first | apply Kd.R_alloc | apply Kd.R_drewN | apply Kd.R_drew)); exact HO598.out) hb)
              have n2_ := Aside0.mk (blk_below (g := gb583) (o := .cells #[.int .i64 a0_0, .int .i64 a0_1] 36 (0, 0)) (by (with_reducible repeat (first | refine blk_drewN ?_ _ | refine blk_drew ?_ | refine blk_alloc ?_ _)); exact BK583.out) hb)
              have n3_ := Aside0.mk (blk_below (g := gb584) (o := .cells #[.int .i64 a1_0, .int .i64 a1_1] 36 (0, 0)) (by (with_reducible repeat (first | refine blk_drewN ?_ _ | refine blk_drew ?_ | refine blk_alloc ?_ _)); exact BK584.out) hb)
              have n4_ := Aside0.mk (below_step (by repeat (first | (with_reducible first | exact HB.out | apply below_alloc | apply pw_below_drewN | apply below_drew1 | refine below_set ?_ GE583.out | refine below_set ?_ GE584.out) | exact HB.out)) hb)
              clear HO591
              clear HO598
              clear BK583
              clear BK584
              clear HB
              have HO591 := n0_
              have HO598 := n1_
              have BK583 := n2_
              have BK584 := n3_
              have HB := n4_
              clear n0_ n1_ n2_ n3_ n4_
              (try clear hb)
              (try clear hb2)
              (try clear hk)
              (try clear hi)
              refine hK.out _ _ ⟨(blk_cell BK583.out 0).trans rfl, (blk_cell BK583.out 1).trans rfl, (blk_cell BK584.out 0).trans rfl, (blk_cell BK584.out 1).trans rfl⟩ (fun hHeld => ?_)
              clear hK K
              refine norm_ (a' := ?_) ?_ ?_
              rotate_left
              · show Act.put _ (some 36) _ = _
                simp only [Act.put, List.setIfInBounds_toArray, List.set_cons_zero, List.set_cons_succ, i64_w, i32_w]
                rfl
              refine one_ (i := 3) (N := some 38) #[true, true, true, true, false, false] rfl rfl (by kernel_rfl) (by decide) (fun K hK => ?_)
              refine goes_ Try.func30 (by kernel_rfl) rfl #[.agg #[.int .i64 a1_0, .int .i64 a1_1]] (by rfl) rfl rfl (by (try simp only [List.map_toArray, List.map_cons, List.map_nil]); first | done | rfl | (simp only [List.length_drop, List.length_take]; rfl)) ?_
              with_reducible refine (laws_toSlope.calls a1_0 a1_1 t605 t606 _ A16.out).mono ?_
              rintro e w39 ⟨rfl, hb⟩
              refine ⟨_, rfl, ?_⟩
              have n0_ := Aside0.mk (Kd.R_below (by (with_reducible repeat (first | apply Kd.R_alloc | apply Kd.R_drewN | apply Kd.R_drew)); exact HO591.out) hb)
              have n1_ := Aside0.mk (Kd.R_below (by (with_reducible repeat (first | apply Kd.R_alloc | apply Kd.R_drewN | apply Kd.R_drew)); exact HO598.out) hb)
              have n2_ := Aside0.mk (blk_below (g := gb583) (o := .cells #[.int .i64 a0_0, .int .i64 a0_1] 36 (0, 0)) (by (with_reducible repeat (first | refine blk_drewN ?_ _ | refine blk_drew ?_ | refine blk_alloc ?_ _)); exact BK583.out) hb)
              have n3_ := Aside0.mk (blk_below (g := gb584) (o := .cells #[.int .i64 a1_0, .int .i64 a1_1] 36 (0, 0)) (by (with_reducible repeat (first | refine blk_drewN ?_ _ | refine blk_drew ?_ | refine blk_alloc ?_ _)); exact BK584.out) hb)
              have n4_ := Aside0.mk (below_step (by repeat (first | (with_reducible first | exact HB.out | apply below_alloc | apply pw_below_drewN | apply below_drew1 | refine below_set ?_ GE583.out | refine below_set ?_ GE584.out) | exact HB.out)) hb)
              clear HO591
              clear HO598
              clear BK583
              clear BK584
              clear HB
              have HO591 := n0_
              have HO598 := n1_
              have BK583 := n2_
              have BK584 := n3_
              have HB := n4_
              clear n0_ n1_ n2_ n3_ n4_
              (try clear hb)
              (try clear hb2)
              (try clear hk)
              (try clear hi)
              refine hK.out _ _ ⟨(blk_cell BK583.out 0).trans rfl, (blk_cell BK583.out 1).trans rfl, (blk_cell BK584.out 0).trans rfl, (blk_cell BK584.out 1).trans rfl⟩ (fun hHeld => ?_)
              clear hK K
              refine norm_ (a' := ?_) ?_ ?_
              rotate_left
              · show Act.put _ (some 38) _ = _
                simp only [Act.put, List.setIfInBounds_toArray, List.set_cons_zero, List.set_cons_succ, i64_w, i32_w]
                rfl
              refine one_ (i := 4) (N := some 39) #[true, true, true, true, true, false] rfl rfl (by kernel_rfl) (by decide) (fun K hK => ?_)
              refine goes_ Try.func45 (by kernel_rfl) rfl #[.agg #[.int .i64 t603, .int .i64 t604], .agg #[.int .i64 t605, .int .i64 t606]] (by rfl) rfl rfl (by (try simp only [List.map_toArray, List.map_cons, List.map_nil]); first | done | rfl | (simp only [List.length_drop, List.length_take]; rfl)) ?_
              with_reducible refine (impl_CommonNeighbours.calls k t603 t604 t605 t606 t607 _ A17.out).mono ?_
              rintro e w40 ⟨v608, rfl, ho0, hb⟩
              refine ⟨_, rfl, ?_⟩
              have n0_ := Aside0.mk (Kd.R_elder' (by (with_reducible repeat (first | apply Kd.R_alloc | apply Kd.R_drewN | apply Kd.R_drew)); exact HO591.out) (Kd.R_base ho0) hb)
              have n1_ := Aside0.mk (Kd.R_elder' (by (with_reducible repeat (first | apply Kd.R_alloc | apply Kd.R_drewN | apply Kd.R_drew)); exact HO598.out) (Kd.R_base ho0) hb)
              have n2_ := Aside0.mk (Kd.R_lower (Kd.R_new' (Kd.R_new' ho0 (Kd.R_lt (by (with_reducible repeat (first | apply Kd.R_alloc | apply Kd.R_drewN | apply Kd.R_drew)); exact HO591.out))) (Kd.R_lt (by (with_reducible repeat (first | apply Kd.R_alloc | apply Kd.R_drewN | apply Kd.R_drew)); exact HO598.out))) (below_size (by repeat (first | (with_reducible first | exact HB.out | apply below_alloc | apply pw_below_drewN | apply below_drew1 | refine below_set ?_ GE583.out | refine below_set ?_ GE584.out) | exact HB.out))))
              have n3_ := Aside0.mk (blk_below (g := gb583) (o := .cells #[.int .i64 a0_0, .int .i64 a0_1] 36 (0, 0)) (by (with_reducible repeat (first | refine blk_drewN ?_ _ | refine blk_drew ?_ | refine blk_alloc ?_ _)); exact BK583.out) hb)
              have n4_ := Aside0.mk (blk_below (g := gb584) (o := .cells #[.int .i64 a1_0, .int .i64 a1_1] 36 (0, 0)) (by (with_reducible repeat (first | refine blk_drewN ?_ _ | refine blk_drew ?_ | refine blk_alloc ?_ _)); exact BK584.out) hb)
              have n5_ := Aside0.mk (below_step (by repeat (first | (with_reducible first | exact HB.out | apply below_alloc | apply pw_below_drewN | apply below_drew1 | refine below_set ?_ GE583.out | refine below_set ?_ GE584.out) | exact HB.out)) hb)
              clear HO591
              clear HO598
              clear BK583
              clear BK584
              clear HB
              have HO591 := n0_
              have HO598 := n1_
              have HO609 := n2_
              have BK583 := n3_
              have BK584 := n4_
              have HB := n5_
              clear n0_ n1_ n2_ n3_ n4_ n5_
              (try clear hb)
              (try clear hb2)
              (try clear hk)
              (try clear hi)
              (try clear ho0)
              refine hK.out _ _ ⟨(blk_cell BK583.out 0).trans rfl, (blk_cell BK583.out 1).trans rfl, (blk_cell BK584.out 0).trans rfl, (blk_cell BK584.out 1).trans rfl⟩ (fun hHeld => ?_)
              clear hK K
              refine norm_ (a' := ?_) ?_ ?_
              rotate_left
              · show Act.put _ (some 39) _ = _
                simp only [Act.put, List.setIfInBounds_toArray, List.set_cons_zero, List.set_cons_succ, i64_w, i32_w]
                rfl
              refine pure_ (i := 5) (N := some 9) (v := ?_) (a' := ?_) #[true, true, true, true, true, true] rfl rfl (by kernel_rfl) (fun _ _ _ h => h) (Or.inl ⟨by rfl, ?_⟩) ?_ ?_
              rotate_left
              · intro w'
                go_simp
                with_reducible rfl
              rotate_left
              · simp only [Act.put, List.setIfInBounds_toArray, List.set_cons_zero, List.set_cons_succ, i64_w, i32_w]
                rfl
              refine done_ (by kernel_rfl) ?_
              obtain ⟨Ao41, co41, eo41⟩ := Kd.R_slice HO609.out
              subst eo41
              try go_wp2_with (first | ((with_reducible refine gate_callee (f := 39) rfl ?_); refine goesL_ (some 42) rfl rfl Try.func39 (by kernel_rfl) rfl #[.slice Ao41 t607.length co41, .slice Ao34 t589.length co34] rfl (by (try simp only [List.map_toArray, List.map_cons, List.map_nil]); first | done | rfl | (simp only [List.length_drop, List.length_take]; rfl)) ?_; (with_reducible refine (laws_eqSlopeS.calls k _ _ t607 _ _ t589 true _ ?side1 ?side2 ?side3 ?side4 A18.out).mono ?_); (case side1 => repeat (first | exact (Kd.R_reads' HO609.out).2.2 | (with_reducible refine Kd.C_alloc ?_ _) | (with_reducible refine Kd.C_drewN ?_ _) | (with_reducible refine Kd.C_drew ?_))); (case side2 => exact (Kd.R_reads' HO609.out).2.1); (case side3 => repeat (first | exact (Kd.R_reads' HO591.out).2.2 | (with_reducible refine Kd.C_alloc ?_ _) | (with_reducible refine Kd.C_drewN ?_ _) | (with_reducible refine Kd.C_drew ?_))); (case side4 => exact (Kd.R_reads' HO591.out).2.1); rintro e w42 ⟨rfl, hb⟩; refine ⟨_, rfl, ?_⟩; have n0_ := Aside0.mk (Kd.R_below (by (with_reducible repeat (first | apply Kd.R_alloc | apply Kd.R_drewN | apply Kd.R_drew)); exact HO591.out) hb); have n1_ := Aside0.mk (Kd.R_below (by (with_reducible repeat (first | apply Kd.R_alloc | apply Kd.R_drewN | apply Kd.R_drew)); exact HO598.out) hb); have n2_ := Aside0.mk (Kd.R_below (by (with_reducible repeat (first | apply Kd.R_alloc | apply Kd.R_drewN | apply Kd.R_drew)); exact HO609.out) hb); have n3_ := Aside0.mk (blk_below (g := gb583) (o := .cells #[.int .i64 a0_0, .int .i64 a0_1] 36 (0, 0)) (by (with_reducible repeat (first | refine blk_drewN ?_ _ | refine blk_drew ?_ | refine blk_alloc ?_ _)); exact BK583.out) hb); have n4_ := Aside0.mk (blk_below (g := gb584) (o := .cells #[.int .i64 a1_0, .int .i64 a1_1] 36 (0, 0)) (by (with_reducible repeat (first | refine blk_drewN ?_ _ | refine blk_drew ?_ | refine blk_alloc ?_ _)); exact BK584.out) hb); have n5_ := Aside0.mk (below_step (by repeat (first | (with_reducible first | exact HB.out | apply below_alloc | apply pw_below_drewN | apply below_drew1 | refine below_set ?_ GE583.out | refine below_set ?_ GE584.out) | exact HB.out)) hb); clear HO591; clear HO598; clear HO609; clear BK583; clear BK584; clear HB; have HO591 := n0_; have HO598 := n1_; have HO609 := n2_; have BK583 := n3_; have BK584 := n4_; have HB := n5_; clear n0_ n1_ n2_ n3_ n4_ n5_; (try clear hb); (try clear hb2); (try clear hk); (try clear hi)) | ((with_reducible refine gate_callee (f := 41) rfl ?_); refine goesL_ (some 46) rfl rfl Try.func41 (by kernel_rfl) rfl #[.slice Ao33 t601.length co33, .int .i64 1] rfl (by (try simp only [List.map_toArray, List.map_cons, List.map_nil]); first | done | (rw [show t601.length = t596.length from (Kd.R_reads' HO598.out).1.symm] <;> rfl) | rfl | (simp only [List.length_drop, List.length_take]; rfl)) ?_; (with_reducible refine (laws_heldSlopeS.calls k _ _ t601 1 t611 _ ?side1 ?side2 A20.out).mono ?_); (case side1 => repeat (first | exact (Kd.R_reads' HO598.out).2.2 | (with_reducible refine Kd.C_alloc ?_ _) | (with_reducible refine Kd.C_drewN ?_ _) | (with_reducible refine Kd.C_drew ?_))); (case side2 => rw [show t601.length = t596.length from (Kd.R_reads' HO598.out).1.symm]; exact (Kd.R_reads' HO598.out).2.1); rintro e w' ⟨rfl, ⟨nd, rfl⟩⟩; refine ⟨_, rfl, ?_⟩))
              go_ret
              exact ⟨by first | rfl | (simp [errW_none, errW_some] <;> rfl) | (simp [*, errW_none, errW_some] <;> rfl), by repeat (first | (with_reducible first | exact HB.out | apply below_alloc | apply pw_below_drewN | apply below_drew1 | refine below_set ?_ GE583.out | refine below_set ?_ GE584.out) | exact HB.out)⟩
            · rw [if_neg c22] at H
              exact absurd H (by simp)
        · replace c19 := Bool.eq_false_iff.mpr c19
          subst c19
          have H1 : (none) = some r := by rw [if_neg (show ¬ (false = true) by decide)] at H; exact H
          clear H
          have H := H1
          clear H1
          exact absurd H (by simp)
      · rw [if_neg c14] at H
        exact absurd H (by simp)
  · replace c10 := Bool.eq_false_iff.mpr c10
    subst c10
    have H1 : (none) = some r := by rw [if_neg (show ¬ (false = true) by decide)] at H; exact H
    clear H
    have H := H1
    clear H1
    exact absurd H (by simp)

end Go.Proofs.Ytjmifldndjkmpaa.P
