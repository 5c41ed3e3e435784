-- By this session's driver (wip/tools/mk.py) of the kit's print program, over several statements at once. Not trusted: Lean checks it.
import Derived.Test.YtjmgbaphlhimhaaUPx0
import Derived.Test.YtjmgbaphlhimhaaUPx16
import Derived.Test.YtjmgbaphlhimhaaUPx33
import Derived.Test.YtjmgbaphlhimhaaUPx36
import Derived.Test.YtjmgbaphlhimhaaUPx37
namespace Go.Proofs.Ytjmgbaphlhimhaa.P
open Go.RowKit Go.Proofs.YtjmgbaphlhimhaaW.PrintWords Go.Proofs.YtjmgbaphlhimhaaW.PrintLast Go.Proofs.YtjmgbaphlhimhaaW.PrintMore
attribute [local go_sem] max2_int min2_int max_two min_two max_three min_three max_four min_four   -- for this text's walks alone
set_option linter.unusedVariables false
set_option linter.unusedSimpArgs false
theorem bw_38 {n : Nat} {v v' : World} (h : Below n v v' := by repeat (first | (with_reducible first | exact HB.out | apply bwA | apply pbN | apply bwD) | exact HB.out)) : Below n v v' := h
theorem ln_38 {P : Prop} (h : P := by (try simp only [List.map_toArray, List.map_cons, List.map_nil]); first | done | rfl | (simp only [List.length_drop, List.length_take]; rfl)) : P := h
open Option renaming bind_eq_some_iff → be

/-! ### laws_FnExactTwistCurve: function 6 -/
mutual
def laws_FnExactTwistCurve.j0 : Nat → List Int → List Int → Int → List Int → Bool → List Int → List Int → List Int → Bool → Bool → Option (Bool)
 | 0, _, _, _, _, _, _, _, _, _, _ => none
 | k + 1, x0, x1, x2, x7, x8, x9, x10, x11, x12, x52 => if x52 = true then (none) else ((laws_toIntS.f k x0).bind fun t587 => ((laws_eqIntS.f k x9 t587).bind fun t590 => (if t590 = true then ((laws_toIntS.f k x1).bind fun t591 => ((laws_eqIntS.f k x10 t591).bind fun t594 => (if t594 = true then ((laws_markIntS.f k x9 1).bind fun bt595 => ((laws_markIntS.f k x10 bt595.1).bind fun bt597 => (if bt597.1 < 0 then (laws_FnExactTwistCurve.j1 k x0 x1 x2 x7 x8 x11 true) else ((laws_eqIntS.f k x11 x7).bind fun t599 => (if t599 = true then (laws_FnExactTwistCurve.j1 k x0 x1 x2 x7 x8 x11 (x12 != x8)) else (laws_FnExactTwistCurve.j1 k x0 x1 x2 x7 x8 x11 true)))))) else (none)))) else (none))))
def laws_FnExactTwistCurve.j1 : Nat → List Int → List Int → Int → List Int → Bool → List Int → Bool → Option (Bool)
 | 0, _, _, _, _, _, _, _ => none
 | k + 1, x0, x1, x2, x7, x8, x11, x81 => if x81 = true then (none) else ((laws_markIntS.f k x11 1).bind fun bt600 => ((laws_heldIntS.f k bt600.2 1).bind fun t602 => (if t602 < 0 then (none) else (if t602 = bt600.1 then ((laws_toIntS.f k x0).bind fun t603 => ((laws_toIntS.f k x1).bind fun t606 => ((impl_TwistCurve.f k t603 t606 x2).bind fun bt609 => ((laws_eqIntS.f k bt609.1 x7).bind fun t613 => (if t613 = true then (laws_FnExactTwistCurve.j2 k bt600.2 bt600.1 (bt609.2 != x8)) else (laws_FnExactTwistCurve.j2 k bt600.2 bt600.1 true)))))) else (none)))))
def laws_FnExactTwistCurve.j2 : Nat → List Int → Int → Bool → Option (Bool)
 | 0, _, _, _ => none
 | k + 1, x11, x14, x110 => if x110 = true then (none) else ((laws_heldIntS.f k x11 1).bind fun t614 => (if t614 < 0 then (none) else (if t614 = x14 then (some true) else (none))))
end
def laws_FnExactTwistCurve.f (k : Nat) (l0 : List Int) (l1 : List Int) (a2 : Int) : Option (Bool) := if (l0.length : Int) > 1048576 then (some true) else (if (l1.length : Int) > 1048576 then (some true) else ((laws_toIntS.f k l0).bind fun t566 => ((laws_toIntS.f k l1).bind fun t569 => ((spec_TwistCurve.f k t566 t569 a2).bind fun bt572 => ((laws_toIntS.f k l0).bind fun t576 => ((laws_toIntS.f k l1).bind fun t579 => ((impl_TwistCurve.f k t576 t579 a2).bind fun bt582 => ((laws_eqIntS.f k bt582.1 bt572.1).bind fun t586 => (if t586 = true then (laws_FnExactTwistCurve.j0 k l0 l1 a2 bt572.1 bt572.2 t576 t579 bt582.1 bt582.2 (bt582.2 != bt572.2)) else (laws_FnExactTwistCurve.j0 k l0 l1 a2 bt572.1 bt572.2 t576 t579 bt582.1 bt582.2 true))))))))))
theorem laws_FnExactTwistCurve.mono_l : ∀ k, (∀ y0 y1 y2 y3 y4 y5 y6 y7 y8 y9, LeO (laws_FnExactTwistCurve.j0 k y0 y1 y2 y3 y4 y5 y6 y7 y8 y9) (laws_FnExactTwistCurve.j0 (k + 1) y0 y1 y2 y3 y4 y5 y6 y7 y8 y9)) ∧ (∀ y0 y1 y2 y3 y4 y5 y6, LeO (laws_FnExactTwistCurve.j1 k y0 y1 y2 y3 y4 y5 y6) (laws_FnExactTwistCurve.j1 (k + 1) y0 y1 y2 y3 y4 y5 y6)) ∧ (∀ y0 y1 y2, LeO (laws_FnExactTwistCurve.j2 k y0 y1 y2) (laws_FnExactTwistCurve.j2 (k + 1) y0 y1 y2))
 | 0 => ⟨fun _ _ _ _ _ _ _ _ _ _ r h => by simp [laws_FnExactTwistCurve.j0] at h, fun _ _ _ _ _ _ _ r h => by simp [laws_FnExactTwistCurve.j1] at h, fun _ _ _ r h => by simp [laws_FnExactTwistCurve.j2] at h⟩
 | k + 1 => by
  obtain ⟨ih0, ih1, ih2⟩ := laws_FnExactTwistCurve.mono_l k
  refine ⟨?_, ?_, ?_⟩
  ·intro y0 y1 y2 y3 y4 y5 y6 y7 y8 y9
   unfold laws_FnExactTwistCurve.j0
   repeat' first
   | (with_reducible exact ih0 _ _ _ _ _ _ _ _ _ _)
   | (with_reducible exact ih1 _ _ _ _ _ _ _)
   | (with_reducible exact ih2 _ _ _)
   | (with_reducible exact impl_TwistCurve.mono _ _ _ _)
   | (with_reducible exact laws_eqIntS.mono _ _ _)
   | (with_reducible exact laws_heldIntS.mono _ _ _)
   | (with_reducible exact laws_markIntS.mono _ _ _)
   | (with_reducible exact laws_toIntS.mono _ _)
   | (with_reducible exact spec_TwistCurve.mono _ _ _ _)
   | (with_reducible exact LeO.refl _)
   | (with_reducible exact LeO.none _)
   | (with_reducible refine LeO.ite ?_ ?_)
   | (with_reducible refine LeO.bind ?_ (fun _ => ?_))
   | exact ih0 _ _ _ _ _ _ _ _ _ _
   | exact ih1 _ _ _ _ _ _ _
   | exact ih2 _ _ _
   | exact impl_TwistCurve.mono _ _ _ _
   | exact laws_eqIntS.mono _ _ _
   | exact laws_heldIntS.mono _ _ _
   | exact laws_markIntS.mono _ _ _
   | exact laws_toIntS.mono _ _
   | exact spec_TwistCurve.mono _ _ _ _
   | exact LeO.none _
   | refine LeO.ite ?_ ?_
   | refine LeO.bind ?_ (fun _ => ?_)
  ·intro y0 y1 y2 y3 y4 y5 y6
   unfold laws_FnExactTwistCurve.j1
   repeat' first
   | (with_reducible exact ih0 _ _ _ _ _ _ _ _ _ _)
   | (with_reducible exact ih1 _ _ _ _ _ _ _)
   | (with_reducible exact ih2 _ _ _)
   | (with_reducible exact impl_TwistCurve.mono _ _ _ _)
   | (with_reducible exact laws_eqIntS.mono _ _ _)
   | (with_reducible exact laws_heldIntS.mono _ _ _)
   | (with_reducible exact laws_markIntS.mono _ _ _)
   | (with_reducible exact laws_toIntS.mono _ _)
   | (with_reducible exact spec_TwistCurve.mono _ _ _ _)
   | (with_reducible exact LeO.refl _)
   | (with_reducible exact LeO.none _)
   | (with_reducible refine LeO.ite ?_ ?_)
   | (with_reducible refine LeO.bind ?_ (fun _ => ?_))
   | exact ih0 _ _ _ _ _ _ _ _ _ _
   | exact ih1 _ _ _ _ _ _ _
   | exact ih2 _ _ _
   | exact impl_TwistCurve.mono _ _ _ _
   | exact laws_eqIntS.mono _ _ _
   | exact laws_heldIntS.mono _ _ _
   | exact laws_markIntS.mono _ _ _
   | exact laws_toIntS.mono _ _
   | exact spec_TwistCurve.mono _ _ _ _
   | exact LeO.none _
   | refine LeO.ite ?_ ?_
   | refine LeO.bind ?_ (fun _ => ?_)
  intro y0 y1 y2
  unfold laws_FnExactTwistCurve.j2
  repeat' first
  | (with_reducible exact ih0 _ _ _ _ _ _ _ _ _ _)
  | (with_reducible exact ih1 _ _ _ _ _ _ _)
  | (with_reducible exact ih2 _ _ _)
  | (with_reducible exact impl_TwistCurve.mono _ _ _ _)
  | (with_reducible exact laws_eqIntS.mono _ _ _)
  | (with_reducible exact laws_heldIntS.mono _ _ _)
  | (with_reducible exact laws_markIntS.mono _ _ _)
  | (with_reducible exact laws_toIntS.mono _ _)
  | (with_reducible exact spec_TwistCurve.mono _ _ _ _)
  | (with_reducible exact LeO.refl _)
  | (with_reducible exact LeO.none _)
  | (with_reducible refine LeO.ite ?_ ?_)
  | (with_reducible refine LeO.bind ?_ (fun _ => ?_))
  | exact ih0 _ _ _ _ _ _ _ _ _ _
  | exact ih1 _ _ _ _ _ _ _
  | exact ih2 _ _ _
  | exact impl_TwistCurve.mono _ _ _ _
  | exact laws_eqIntS.mono _ _ _
  | exact laws_heldIntS.mono _ _ _
  | exact laws_markIntS.mono _ _ _
  | exact laws_toIntS.mono _ _
  | exact spec_TwistCurve.mono _ _ _ _
  | exact LeO.none _
  | refine LeO.ite ?_ ?_
  | refine LeO.bind ?_ (fun _ => ?_)
theorem laws_FnExactTwistCurve.mono : ∀ a0 a1 a2 k, LeO (laws_FnExactTwistCurve.f k a0 a1 a2) (laws_FnExactTwistCurve.f (k + 1) a0 a1 a2) := by
 intro a0 a1 a2 k
 obtain ⟨ih0, ih1, ih2⟩ := laws_FnExactTwistCurve.mono_l k
 unfold laws_FnExactTwistCurve.f
 repeat' first
   | (with_reducible exact ih0 _ _ _ _ _ _ _ _ _ _)
   | (with_reducible exact ih1 _ _ _ _ _ _ _)
   | (with_reducible exact ih2 _ _ _)
   | (with_reducible exact impl_TwistCurve.mono _ _ _ _)
   | (with_reducible exact laws_eqIntS.mono _ _ _)
   | (with_reducible exact laws_heldIntS.mono _ _ _)
   | (with_reducible exact laws_markIntS.mono _ _ _)
   | (with_reducible exact laws_toIntS.mono _ _)
   | (with_reducible exact spec_TwistCurve.mono _ _ _ _)
   | (with_reducible exact LeO.refl _)
   | (with_reducible exact LeO.none _)
   | (with_reducible refine LeO.ite ?_ ?_)
   | (with_reducible refine LeO.bind ?_ (fun _ => ?_))
   | exact ih0 _ _ _ _ _ _ _ _ _ _
   | exact ih1 _ _ _ _ _ _ _
   | exact ih2 _ _ _
   | exact impl_TwistCurve.mono _ _ _ _
   | exact laws_eqIntS.mono _ _ _
   | exact laws_heldIntS.mono _ _ _
   | exact laws_markIntS.mono _ _ _
   | exact laws_toIntS.mono _ _
   | exact spec_TwistCurve.mono _ _ _ _
   | exact LeO.none _
   | refine LeO.ite ?_ ?_
   | refine LeO.bind ?_ (fun _ => ?_)
set_option maxHeartbeats 8000000 in
set_option maxRecDepth 100000 in
theorem laws_FnExactTwistCurve.calls (k : Nat) (A0 : Option Addr) (c0 : Nat) (l0 : List Int) (A1 : Option Addr) (c1 : Nat) (l1 : List Int) (a2 : Int) (r : Bool) (w : World) (hr0 : Kd.C (Kd.int .i64) w A0 l0.length l0) (hc0 : l0.length ≤ c0) (hr1 : Kd.C (Kd.int .i64) w A1 l1.length l1) (hc1 : l1.length ≤ c1) (h : laws_FnExactTwistCurve.f k l0 l1 a2 = some r) :
  Calls Try.prog 6 #[.slice A0 l0.length c0, .slice A1 l1.length c1, .int .i64 a2] w fun e w' => e = .returned (.bool r) ∧ Below w.heap.size w w' := by
 have HR0 := Az.mk hr0
 have HC0 := Az.mk hc0
 clear hr0 hc0
 have HR1 := Az.mk hr1
 have HC1 := Az.mk hc1
 clear hr1 hc1
 have HB := Az.mk (Below.refl w.heap.size w)
 have H : (if (l0.length : Int) > 1048576 then (some true) else (if (l1.length : Int) > 1048576 then (some true) else ((laws_toIntS.f k l0).bind fun t566 => ((laws_toIntS.f k l1).bind fun t569 => ((spec_TwistCurve.f k t566 t569 a2).bind fun bt572 => ((laws_toIntS.f k l0).bind fun t576 => ((laws_toIntS.f k l1).bind fun t579 => ((impl_TwistCurve.f k t576 t579 a2).bind fun bt582 => ((laws_eqIntS.f k bt582.1 bt572.1).bind fun t586 => (if t586 = true then (laws_FnExactTwistCurve.j0 k l0 l1 a2 bt572.1 bt572.2 t576 t579 bt582.1 bt582.2 (bt582.2 != bt572.2)) else (laws_FnExactTwistCurve.j0 k l0 l1 a2 bt572.1 bt572.2 t576 t579 bt582.1 bt582.2 true))))))))))) = some r := h
 clear h
 by_cases c4 : (l0.length : Int) > 1048576
 ·rw [if_pos c4] at H
  have c4b0 : decide (1048576 < (l0.length : Int)) = true := decide_eq_true c4
  have c4b1 : decide (1048576 < l0.length) = true := decide_eq_true (by omega)
  clear c4
  obtain rfl := Option.some.inj H
  go_enter Try.func6, Try.ntmps6
  go_wp2
  go_ret
  exact ⟨by first | rfl | (simp [eWn, eWs] <;> rfl) | (simp [*, eWn, eWs] <;> rfl), bw_38⟩
 rw [if_neg c4] at H
 have c4b0 : decide (1048576 < (l0.length : Int)) = false := decide_eq_false c4
 have c4b1 : decide (1048576 < l0.length) = false := decide_eq_false (by omega)
 clear c4
 by_cases c5 : (l1.length : Int) > 1048576
 ·rw [if_pos c5] at H
  have c5b0 : decide (1048576 < (l1.length : Int)) = true := decide_eq_true c5
  have c5b1 : decide (1048576 < l1.length) = true := decide_eq_true (by omega)
  clear c5
  obtain rfl := Option.some.inj H
  go_enter Try.func6, Try.ntmps6
  go_wp2
  go_ret
  exact ⟨by first | rfl | (simp [eWn, eWs] <;> rfl) | (simp [*, eWn, eWs] <;> rfl), bw_38⟩
 rw [if_neg c5] at H
 have c5b0 : decide (1048576 < (l1.length : Int)) = false := decide_eq_false c5
 have c5b1 : decide (1048576 < l1.length) = false := decide_eq_false (by omega)
 clear c5
 replace H := be.mp H
 obtain ⟨t566, A60, H⟩ := H
 try dsimp only at H
 have A6 := Az.mk A60
 clear A60
 replace H := be.mp H
 obtain ⟨t569, A70, H⟩ := H
 try dsimp only at H
 have A7 := Az.mk A70
 clear A70
 replace H := be.mp H
 obtain ⟨⟨t572, t573⟩, A80, H⟩ := H
 try dsimp only at H
 have A8 := Az.mk A80
 clear A80
 replace H := be.mp H
 obtain ⟨t576, A90, H⟩ := H
 try dsimp only at H
 have A9 := Az.mk A90
 clear A90
 replace H := be.mp H
 obtain ⟨t579, A100, H⟩ := H
 try dsimp only at H
 have A10 := Az.mk A100
 clear A100
 replace H := be.mp H
 obtain ⟨⟨t582, t583⟩, A110, H⟩ := H
 try dsimp only at H
 have A11 := Az.mk A110
 clear A110
 have HC12 := Az.mk H
 clear H
 go_enter Try.func6, Try.ntmps6
 go_upto_region 9 with (first | ((with_reducible refine gtC (f := 9) rfl ?_); refine goesL_ (some 26) rfl rfl Try.func9 (by kernel_rfl) rfl #[.slice A0 l0.length c0] rfl ln_38 ?_; (with_reducible refine (laws_toIntS.calls k _ _ l0 t566 _ ?side1 ?side2 A6.out).mono ?_); (case side1 => repeat (first | exact HR0.out | (with_reducible refine Kd.C_alloc ?_ _) | (with_reducible refine Kd.C_drewN ?_ _) | (with_reducible refine Kd.C_drew ?_))); (case side2 => exact HC0.out); rintro e w13 ⟨v567, rfl, ho0, hb⟩; refine ⟨_, rfl, ?_⟩; have HO568 := Az.mk (Kd.R_lower ho0 (bwZ bw_38)); replace HB := Az.mk (bwT bw_38 hb); (try clear hb); (try clear ho0)) | ((with_reducible refine gtC (f := 9) rfl ?_); refine goesL_ (some 28) rfl rfl Try.func9 (by kernel_rfl) rfl #[.slice A1 l1.length c1] rfl ln_38 ?_; (with_reducible refine (laws_toIntS.calls k _ _ l1 t569 _ ?side1 ?side2 A7.out).mono ?_); (case side1 => repeat (first | exact (Kd.C_below HR1.out HB.out) | (with_reducible refine Kd.C_alloc ?_ _) | (with_reducible refine Kd.C_drewN ?_ _) | (with_reducible refine Kd.C_drew ?_))); (case side2 => exact HC1.out); rintro e w14 ⟨v570, rfl, ho0, hb⟩; refine ⟨_, rfl, ?_⟩; have HO571 := Az.mk (Kd.R_lower (Kd.R_new' ho0 (Kd.R_lt (by (with_reducible repeat (first | apply Kd.R_alloc | apply Kd.R_drewN | apply Kd.R_drew)); exact HO568.out))) (bwZ bw_38)); replace HO568 := Az.mk (Kd.R_elder' (by (with_reducible repeat (first | apply Kd.R_alloc | apply Kd.R_drewN | apply Kd.R_drew)); exact HO568.out) (Kd.R_base ho0) hb); replace HB := Az.mk (bwT bw_38 hb); (try clear hb); (try clear ho0); obtain ⟨Ao15, co15, eo15⟩ := Kd.R_slice HO568.out; subst eo15; obtain ⟨Ao16, co16, eo16⟩ := Kd.R_slice HO571.out; subst eo16) | ((with_reducible refine gtC (f := 17) rfl ?_); refine goesL_ (some 30) rfl rfl Try.func17 (by kernel_rfl) rfl #[.slice Ao15 t566.length co15, .slice Ao16 t569.length co16, .int .i64 a2] rfl ln_38 ?_; (with_reducible refine (spec_TwistCurve.calls k _ _ t566 _ _ t569 a2 t572 t573 _ ?side1 ?side2 ?side3 ?side4 A8.out).mono ?_); (case side1 => repeat (first | exact (Kd.R_reads' HO568.out).2.2 | (with_reducible refine Kd.C_alloc ?_ _) | (with_reducible refine Kd.C_drewN ?_ _) | (with_reducible refine Kd.C_drew ?_))); (case side2 => exact (Kd.R_reads' HO568.out).2.1); (case side3 => repeat (first | exact (Kd.R_reads' HO571.out).2.2 | (with_reducible refine Kd.C_alloc ?_ _) | (with_reducible refine Kd.C_drewN ?_ _) | (with_reducible refine Kd.C_drew ?_))); (case side4 => exact (Kd.R_reads' HO571.out).2.1); rintro e w17 ⟨v574, rfl, ho0, hb⟩; refine ⟨_, rfl, ?_⟩; have HO575 := Az.mk (Kd.R_lower (Kd.R_new' (Kd.R_new' ho0 (Kd.R_lt (by (with_reducible repeat (first | apply Kd.R_alloc | apply Kd.R_drewN | apply Kd.R_drew)); exact HO568.out))) (Kd.R_lt (by (with_reducible repeat (first | apply Kd.R_alloc | apply Kd.R_drewN | apply Kd.R_drew)); exact HO571.out))) (bwZ bw_38)); replace HO568 := Az.mk (Kd.R_elder' (by (with_reducible repeat (first | apply Kd.R_alloc | apply Kd.R_drewN | apply Kd.R_drew)); exact HO568.out) (Kd.R_base ho0) hb); replace HO571 := Az.mk (Kd.R_elder' (by (with_reducible repeat (first | apply Kd.R_alloc | apply Kd.R_drewN | apply Kd.R_drew)); exact HO571.out) (Kd.R_base ho0) hb); replace HB := Az.mk (bwT bw_38 hb); (try clear hb); (try clear ho0)) | ((with_reducible refine gtC (f := 9) rfl ?_); refine goesL_ (some 34) rfl rfl Try.func9 (by kernel_rfl) rfl #[.slice A0 l0.length c0] rfl ln_38 ?_; (with_reducible refine (laws_toIntS.calls k _ _ l0 t576 _ ?side1 ?side2 A9.out).mono ?_); (case side1 => repeat (first | exact (Kd.C_below HR0.out HB.out) | (with_reducible refine Kd.C_alloc ?_ _) | (with_reducible refine Kd.C_drewN ?_ _) | (with_reducible refine Kd.C_drew ?_))); (case side2 => exact HC0.out); rintro e w18 ⟨v577, rfl, ho0, hb⟩; refine ⟨_, rfl, ?_⟩; have HO578 := Az.mk (Kd.R_lower (Kd.R_new' (Kd.R_new' (Kd.R_new' ho0 (Kd.R_lt (by (with_reducible repeat (first | apply Kd.R_alloc | apply Kd.R_drewN | apply Kd.R_drew)); exact HO568.out))) (Kd.R_lt (by (with_reducible repeat (first | apply Kd.R_alloc | apply Kd.R_drewN | apply Kd.R_drew)); exact HO571.out))) (Kd.R_lt (by (with_reducible repeat (first | apply Kd.R_alloc | apply Kd.R_drewN | apply Kd.R_drew)); exact HO575.out))) (bwZ bw_38)); replace HO568 := Az.mk (Kd.R_elder' (by (with_reducible repeat (first | apply Kd.R_alloc | apply Kd.R_drewN | apply Kd.R_drew)); exact HO568.out) (Kd.R_base ho0) hb); replace HO571 := Az.mk (Kd.R_elder' (by (with_reducible repeat (first | apply Kd.R_alloc | apply Kd.R_drewN | apply Kd.R_drew)); exact HO571.out) (Kd.R_base ho0) hb); replace HO575 := Az.mk (Kd.R_elder' (by (with_reducible repeat (first | apply Kd.R_alloc | apply Kd.R_drewN | apply Kd.R_drew)); exact HO575.out) (Kd.R_base ho0) hb); replace HB := Az.mk (bwT bw_38 hb); (try clear hb); (try clear ho0)) | ((with_reducible refine gtC (f := 9) rfl ?_); refine goesL_ (some 36) rfl rfl Try.func9 (by kernel_rfl) rfl #[.slice A1 l1.length c1] rfl ln_38 ?_; (with_reducible refine (laws_toIntS.calls k _ _ l1 t579 _ ?side1 ?side2 A10.out).mono ?_); (case side1 => repeat (first | exact (Kd.C_below HR1.out HB.out) | (with_reducible refine Kd.C_alloc ?_ _) | (with_reducible refine Kd.C_drewN ?_ _) | (with_reducible refine Kd.C_drew ?_))); (case side2 => exact HC1.out); rintro e w19 ⟨v580, rfl, ho0, hb⟩; refine ⟨_, rfl, ?_⟩; have HO581 := Az.mk (Kd.R_lower (Kd.R_new' (Kd.R_new' (Kd.R_new' (Kd.R_new' ho0 (Kd.R_lt (by (with_reducible repeat (first | apply Kd.R_alloc | apply Kd.R_drewN | apply Kd.R_drew)); exact HO568.out))) (Kd.R_lt (by (with_reducible repeat (first | apply Kd.R_alloc | apply Kd.R_drewN | apply Kd.R_drew)); exact HO571.out))) (Kd.R_lt (by (with_reducible repeat (first | apply Kd.R_alloc | apply Kd.R_drewN | apply Kd.R_drew)); exact HO575.out))) (Kd.R_lt (by (with_reducible repeat (first | apply Kd.R_alloc | apply Kd.R_drewN | apply Kd.R_drew)); exact HO578.out))) (bwZ bw_38)); replace HO568 := Az.mk (Kd.R_elder' (by (with_reducible repeat (first | apply Kd.R_alloc | apply Kd.R_drewN | apply Kd.R_drew)); exact HO568.out) (Kd.R_base ho0) hb); replace HO571 := Az.mk (Kd.R_elder' (by (with_reducible repeat (first | apply Kd.R_alloc | apply Kd.R_drewN | apply Kd.R_drew)); exact HO571.out) (Kd.R_base ho0) hb); replace HO575 := Az.mk (Kd.R_elder' (by (with_reducible repeat (first | apply Kd.R_alloc | apply Kd.R_drewN | apply Kd.R_drew)); exact HO575.out) (Kd.R_base ho0) hb); replace HO578 := Az.mk (Kd.R_elder' (by (with_reducible repeat (first | apply Kd.R_alloc | apply Kd.R_drewN | apply Kd.R_drew)); exact HO578.out) (Kd.R_base ho0) hb); replace HB := Az.mk (bwT bw_38 hb); (try clear hb); (try clear ho0); obtain ⟨Ao20, co20, eo20⟩ := Kd.R_slice HO578.out; subst eo20; obtain ⟨Ao21, co21, eo21⟩ := Kd.R_slice HO581.out; subst eo21) | ((with_reducible refine gtC (f := 18) rfl ?_); refine goesL_ (some 41) rfl rfl Try.func18 (by kernel_rfl) rfl #[.slice Ao20 t576.length co20, .slice Ao21 t579.length co21, .int .i64 a2] rfl ln_38 ?_; (with_reducible refine (impl_TwistCurve.calls k _ _ t576 _ _ t579 a2 t582 t583 _ ?side1 ?side2 ?side3 ?side4 A11.out).mono ?_); (case side1 => repeat (first | exact (Kd.R_reads' HO578.out).2.2 | (with_reducible refine Kd.C_alloc ?_ _) | (with_reducible refine Kd.C_drewN ?_ _) | (with_reducible refine Kd.C_drew ?_))); (case side2 => exact (Kd.R_reads' HO578.out).2.1); (case side3 => repeat (first | exact (Kd.R_reads' HO581.out).2.2 | (with_reducible refine Kd.C_alloc ?_ _) | (with_reducible refine Kd.C_drewN ?_ _) | (with_reducible refine Kd.C_drew ?_))); (case side4 => exact (Kd.R_reads' HO581.out).2.1); rintro e w22 ⟨v584, rfl, ho0, hb⟩; refine ⟨_, rfl, ?_⟩; have HO585 := Az.mk (Kd.R_lower (Kd.R_new' (Kd.R_new' (Kd.R_new' (Kd.R_new' (Kd.R_new' ho0 (Kd.R_lt (by (with_reducible repeat (first | apply Kd.R_alloc | apply Kd.R_drewN | apply Kd.R_drew)); exact HO568.out))) (Kd.R_lt (by (with_reducible repeat (first | apply Kd.R_alloc | apply Kd.R_drewN | apply Kd.R_drew)); exact HO571.out))) (Kd.R_lt (by (with_reducible repeat (first | apply Kd.R_alloc | apply Kd.R_drewN | apply Kd.R_drew)); exact HO575.out))) (Kd.R_lt (by (with_reducible repeat (first | apply Kd.R_alloc | apply Kd.R_drewN | apply Kd.R_drew)); exact HO578.out))) (Kd.R_lt (by (with_reducible repeat (first | apply Kd.R_alloc | apply Kd.R_drewN | apply Kd.R_drew)); exact HO581.out))) (bwZ bw_38)); replace HO568 := Az.mk (Kd.R_elder' (by (with_reducible repeat (first | apply Kd.R_alloc | apply Kd.R_drewN | apply Kd.R_drew)); exact HO568.out) (Kd.R_base ho0) hb); replace HO571 := Az.mk (Kd.R_elder' (by (with_reducible repeat (first | apply Kd.R_alloc | apply Kd.R_drewN | apply Kd.R_drew)); exact HO571.out) (Kd.R_base ho0) hb); replace HO575 := Az.mk (Kd.R_elder' (by (with_reducible repeat (first | apply Kd.R_alloc | apply Kd.R_drewN | apply Kd.R_drew)); exact HO575.out) (Kd.R_base ho0) hb); replace HO578 := Az.mk (Kd.R_elder' (by (with_reducible repeat (first | apply Kd.R_alloc | apply Kd.R_drewN | apply Kd.R_drew)); exact HO578.out) (Kd.R_base ho0) hb); replace HO581 := Az.mk (Kd.R_elder' (by (with_reducible repeat (first | apply Kd.R_alloc | apply Kd.R_drewN | apply Kd.R_drew)); exact HO581.out) (Kd.R_base ho0) hb); replace HB := Az.mk (bwT bw_38 hb); (try clear hb); (try clear ho0)))
 (try simp only [Act.put, List.setIfInBounds_toArray, List.set_cons_zero, List.set_cons_succ])
 go_cut [52] (fun v52 wc => ∃ (kq : Nat) (x52_11 : Bool), v52 = .bool x52_11 ∧ Az (laws_FnExactTwistCurve.j0 kq l0 l1 a2 t572 t573 t576 t579 t582 t583 x52_11 = some r) ∧ Az (kq ≤ k) ∧ Az (Kd.R (Kd.int .i64) 3 wc w.heap.size (fun k_ => some k_ ≠ ((.slice Ao20 t576.length co20) : Value).ownBlock ∧ some k_ ≠ ((.slice Ao21 t579.length co21) : Value).ownBlock ∧ some k_ ≠ (v584 : Value).ownBlock) v574 t572) ∧ Az (Kd.R (Kd.int .i64) 3 wc w.heap.size (fun k_ => some k_ ≠ (v574 : Value).ownBlock ∧ some k_ ≠ ((.slice Ao21 t579.length co21) : Value).ownBlock ∧ some k_ ≠ (v584 : Value).ownBlock) (.slice Ao20 t576.length co20) t576) ∧ Az (Kd.R (Kd.int .i64) 3 wc w.heap.size (fun k_ => some k_ ≠ (v574 : Value).ownBlock ∧ some k_ ≠ ((.slice Ao20 t576.length co20) : Value).ownBlock ∧ some k_ ≠ (v584 : Value).ownBlock) (.slice Ao21 t579.length co21) t579) ∧ Az (Kd.R (Kd.int .i64) 3 wc w.heap.size (fun k_ => some k_ ≠ (v574 : Value).ownBlock ∧ some k_ ≠ ((.slice Ao20 t576.length co20) : Value).ownBlock ∧ some k_ ≠ ((.slice Ao21 t579.length co21) : Value).ownBlock) v584 t582) ∧ Az (Below w.heap.size w wc))
 case first =>
  have H := HC12.out
  clear HC12
  replace H := be.mp H
  obtain ⟨t586, A230, H⟩ := H
  try dsimp only at H
  have A23 := Az.mk A230
  clear A230
  by_cases c24 : t586 = true
  ·subst c24
   rw [if_pos rfl] at H
   have H' := Az.mk H
   clear H
   obtain ⟨Ao25, co25, eo25⟩ := Kd.R_slice HO585.out
   subst eo25
   obtain ⟨Ao26, co26, eo26⟩ := Kd.R_slice HO575.out
   subst eo26
   go_wp2_with (first | ((with_reducible refine gtC (f := 12) rfl ?_); refine goesL_ (some 46) rfl rfl Try.func12 (by kernel_rfl) rfl #[.slice Ao25 t582.length co25, .slice Ao26 t572.length co26] rfl ln_38 ?_; (with_reducible refine (laws_eqIntS.calls k _ _ t582 _ _ t572 true _ ?side1 ?side2 ?side3 ?side4 A23.out).mono ?_); (case side1 => repeat (first | exact (Kd.R_reads' HO585.out).2.2 | (with_reducible refine Kd.C_alloc ?_ _) | (with_reducible refine Kd.C_drewN ?_ _) | (with_reducible refine Kd.C_drew ?_))); (case side2 => exact (Kd.R_reads' HO585.out).2.1); (case side3 => repeat (first | exact (Kd.R_reads' HO575.out).2.2 | (with_reducible refine Kd.C_alloc ?_ _) | (with_reducible refine Kd.C_drewN ?_ _) | (with_reducible refine Kd.C_drew ?_))); (case side4 => exact (Kd.R_reads' HO575.out).2.1); rintro e w' ⟨rfl, ⟨nd, rfl⟩⟩; refine ⟨_, rfl, ?_⟩))
   go_meet
   case rel => exact ⟨_, ((t583 != t573)), (by first | rfl | (simp; done) | (simp [*]; done)), H', ⟨by first | omega | exact Nat.le_refl _⟩, ⟨by (with_reducible repeat (first | apply Kd.R_alloc | apply Kd.R_drewN | apply Kd.R_drew)); exact Kd.R_mono HO575.out (fun _ hk => ⟨hk.1.1.2, ⟨hk.1.2, hk.2⟩⟩)⟩, ⟨by (with_reducible repeat (first | apply Kd.R_alloc | apply Kd.R_drewN | apply Kd.R_drew)); exact Kd.R_mono HO578.out (fun _ hk => ⟨hk.1.1.2, ⟨hk.1.2, hk.2⟩⟩)⟩, ⟨by (with_reducible repeat (first | apply Kd.R_alloc | apply Kd.R_drewN | apply Kd.R_drew)); exact Kd.R_mono HO581.out (fun _ hk => ⟨hk.1.1.2, ⟨hk.1.2, hk.2⟩⟩)⟩, ⟨by (with_reducible repeat (first | apply Kd.R_alloc | apply Kd.R_drewN | apply Kd.R_drew)); exact Kd.R_mono HO585.out (fun _ hk => ⟨hk.1.1.2, ⟨hk.1.2, hk.2⟩⟩)⟩, ⟨bw_38⟩⟩
  replace c24 := Bool.eq_false_iff.mpr c24
  subst c24
  rw [if_neg (show ¬ (false = true) by decide)] at H
  have H' := Az.mk H
  clear H
  obtain ⟨Ao27, co27, eo27⟩ := Kd.R_slice HO585.out
  subst eo27
  obtain ⟨Ao28, co28, eo28⟩ := Kd.R_slice HO575.out
  subst eo28
  go_wp2_with (first | ((with_reducible refine gtC (f := 12) rfl ?_); refine goesL_ (some 46) rfl rfl Try.func12 (by kernel_rfl) rfl #[.slice Ao27 t582.length co27, .slice Ao28 t572.length co28] rfl ln_38 ?_; (with_reducible refine (laws_eqIntS.calls k _ _ t582 _ _ t572 false _ ?side1 ?side2 ?side3 ?side4 A23.out).mono ?_); (case side1 => repeat (first | exact (Kd.R_reads' HO585.out).2.2 | (with_reducible refine Kd.C_alloc ?_ _) | (with_reducible refine Kd.C_drewN ?_ _) | (with_reducible refine Kd.C_drew ?_))); (case side2 => exact (Kd.R_reads' HO585.out).2.1); (case side3 => repeat (first | exact (Kd.R_reads' HO575.out).2.2 | (with_reducible refine Kd.C_alloc ?_ _) | (with_reducible refine Kd.C_drewN ?_ _) | (with_reducible refine Kd.C_drew ?_))); (case side4 => exact (Kd.R_reads' HO575.out).2.1); rintro e w' ⟨rfl, ⟨nd, rfl⟩⟩; refine ⟨_, rfl, ?_⟩))
  go_meet
  case rel => exact ⟨_, (true), (by first | rfl | (simp; done) | (simp [*]; done)), H', ⟨by first | omega | exact Nat.le_refl _⟩, ⟨by (with_reducible repeat (first | apply Kd.R_alloc | apply Kd.R_drewN | apply Kd.R_drew)); exact Kd.R_mono HO575.out (fun _ hk => ⟨hk.1.1.2, ⟨hk.1.2, hk.2⟩⟩)⟩, ⟨by (with_reducible repeat (first | apply Kd.R_alloc | apply Kd.R_drewN | apply Kd.R_drew)); exact Kd.R_mono HO578.out (fun _ hk => ⟨hk.1.1.2, ⟨hk.1.2, hk.2⟩⟩)⟩, ⟨by (with_reducible repeat (first | apply Kd.R_alloc | apply Kd.R_drewN | apply Kd.R_drew)); exact Kd.R_mono HO581.out (fun _ hk => ⟨hk.1.1.2, ⟨hk.1.2, hk.2⟩⟩)⟩, ⟨by (with_reducible repeat (first | apply Kd.R_alloc | apply Kd.R_drewN | apply Kd.R_drew)); exact Kd.R_mono HO585.out (fun _ hk => ⟨hk.1.1.2, ⟨hk.1.2, hk.2⟩⟩)⟩, ⟨bw_38⟩⟩
 case rest =>
  clear HC12
  try clear c1
  try clear c2
  try clear p2
  try clear c4
  try clear c4b0
  try clear c4b1
  try clear c5
  try clear c5b0
  try clear c5b1
  try clear c6
  try clear c9
  try clear c12
  try clear c17
  try clear c18
  try clear c24
  obtain ⟨kq, x52_11, rfl, HA, HJ11, HO_7, HO_9, HO_10, HO_11, HB⟩ := hcut
  cases kq with
  | zero => exact absurd HA.out (by simp [laws_FnExactTwistCurve.j0])
  | succ kj11 =>
   have H := HA.out
   clear HA
   simp only [laws_FnExactTwistCurve.j0] at H
   by_cases c29 : x52_11 = true
   ·subst c29
    rw [if_pos rfl] at H
    exact absurd H (by simp)
   replace c29 := Bool.eq_false_iff.mpr c29
   subst c29
   rw [if_neg (show ¬ (false = true) by decide)] at H
   replace H := be.mp H
   obtain ⟨t587, A300, H⟩ := H
   try dsimp only at H
   have A30 := Az.mk A300
   clear A300
   replace H := be.mp H
   obtain ⟨t590, A310, H⟩ := H
   try dsimp only at H
   have A31 := Az.mk A310
   clear A310
   by_cases c32 : t590 = true
   rotate_left
   ·replace c32 := Bool.eq_false_iff.mpr c32
    subst c32
    rw [if_neg (show ¬ (false = true) by decide)] at H
    exact absurd H (by simp)
   subst c32
   rw [if_pos rfl] at H
   replace H := be.mp H
   obtain ⟨t591, A330, H⟩ := H
   try dsimp only at H
   have A33 := Az.mk A330
   clear A330
   replace H := be.mp H
   obtain ⟨t594, A340, H⟩ := H
   try dsimp only at H
   have A34 := Az.mk A340
   clear A340
   by_cases c35 : t594 = true
   rotate_left
   ·replace c35 := Bool.eq_false_iff.mpr c35
    subst c35
    rw [if_neg (show ¬ (false = true) by decide)] at H
    exact absurd H (by simp)
   subst c35
   rw [if_pos rfl] at H
   replace H := be.mp H
   obtain ⟨⟨t595, t596⟩, A360, H⟩ := H
   try dsimp only at H
   have A36 := Az.mk A360
   clear A360
   replace H := be.mp H
   obtain ⟨⟨t597, t598⟩, A370, H⟩ := H
   try dsimp only at H
   have A37 := Az.mk A370
   clear A370
   have HC38 := Az.mk H
   clear H
   go_upto_region 18 with (first | ((with_reducible refine gtC (f := 9) rfl ?_); refine goesL_ (some 55) rfl rfl Try.func9 (by kernel_rfl) rfl #[.slice A0 l0.length c0] rfl ln_38 ?_; (with_reducible refine (laws_toIntS.calls kj11 _ _ l0 t587 _ ?side1 ?side2 A30.out).mono ?_); (case side1 => repeat (first | exact (Kd.C_below HR0.out HB.out) | (with_reducible refine Kd.C_alloc ?_ _) | (with_reducible refine Kd.C_drewN ?_ _) | (with_reducible refine Kd.C_drew ?_))); (case side2 => exact HC0.out); rintro e w39 ⟨v588, rfl, ho0, hb⟩; refine ⟨_, rfl, ?_⟩; have HO589 := Az.mk (Kd.R_lower (Kd.R_new' (Kd.R_new' (Kd.R_new' (Kd.R_new' ho0 (Kd.R_lt (by (with_reducible repeat (first | apply Kd.R_alloc | apply Kd.R_drewN | apply Kd.R_drew)); exact HO_7.out))) (Kd.R_lt (by (with_reducible repeat (first | apply Kd.R_alloc | apply Kd.R_drewN | apply Kd.R_drew)); exact HO_9.out))) (Kd.R_lt (by (with_reducible repeat (first | apply Kd.R_alloc | apply Kd.R_drewN | apply Kd.R_drew)); exact HO_10.out))) (Kd.R_lt (by (with_reducible repeat (first | apply Kd.R_alloc | apply Kd.R_drewN | apply Kd.R_drew)); exact HO_11.out))) (bwZ bw_38)); replace HO_7 := Az.mk (Kd.R_elder' (by (with_reducible repeat (first | apply Kd.R_alloc | apply Kd.R_drewN | apply Kd.R_drew)); exact HO_7.out) (Kd.R_base ho0) hb); replace HO_9 := Az.mk (Kd.R_elder' (by (with_reducible repeat (first | apply Kd.R_alloc | apply Kd.R_drewN | apply Kd.R_drew)); exact HO_9.out) (Kd.R_base ho0) hb); replace HO_10 := Az.mk (Kd.R_elder' (by (with_reducible repeat (first | apply Kd.R_alloc | apply Kd.R_drewN | apply Kd.R_drew)); exact HO_10.out) (Kd.R_base ho0) hb); replace HO_11 := Az.mk (Kd.R_elder' (by (with_reducible repeat (first | apply Kd.R_alloc | apply Kd.R_drewN | apply Kd.R_drew)); exact HO_11.out) (Kd.R_base ho0) hb); replace HB := Az.mk (bwT bw_38 hb); (try clear hb); (try clear ho0); obtain ⟨Ao40, co40, eo40⟩ := Kd.R_slice HO589.out; subst eo40) | ((with_reducible refine gtC (f := 12) rfl ?_); refine goesL_ (some 56) rfl rfl Try.func12 (by kernel_rfl) rfl #[.slice Ao20 t576.length co20, .slice Ao40 t587.length co40] rfl ln_38 ?_; (with_reducible refine (laws_eqIntS.calls kj11 _ _ t576 _ _ t587 true _ ?side1 ?side2 ?side3 ?side4 A31.out).mono ?_); (case side1 => repeat (first | exact (Kd.R_reads' HO_9.out).2.2 | (with_reducible refine Kd.C_alloc ?_ _) | (with_reducible refine Kd.C_drewN ?_ _) | (with_reducible refine Kd.C_drew ?_))); (case side2 => exact (Kd.R_reads' HO_9.out).2.1); (case side3 => repeat (first | exact (Kd.R_reads' HO589.out).2.2 | (with_reducible refine Kd.C_alloc ?_ _) | (with_reducible refine Kd.C_drewN ?_ _) | (with_reducible refine Kd.C_drew ?_))); (case side4 => exact (Kd.R_reads' HO589.out).2.1); rintro e w' ⟨rfl, ⟨nd, rfl⟩⟩; refine ⟨_, rfl, ?_⟩) | ((with_reducible refine gtC (f := 9) rfl ?_); refine goesL_ (some 60) rfl rfl Try.func9 (by kernel_rfl) rfl #[.slice A1 l1.length c1] rfl ln_38 ?_; (with_reducible refine (laws_toIntS.calls kj11 _ _ l1 t591 _ ?side1 ?side2 A33.out).mono ?_); (case side1 => repeat (first | exact (Kd.C_below HR1.out bw_38) | (with_reducible refine Kd.C_alloc ?_ _) | (with_reducible refine Kd.C_drewN ?_ _) | (with_reducible refine Kd.C_drew ?_))); (case side2 => exact HC1.out); rintro e w41 ⟨v592, rfl, ho0, hb⟩; refine ⟨_, rfl, ?_⟩; have HO593 := Az.mk (Kd.R_lower (Kd.R_new' (Kd.R_new' (Kd.R_new' (Kd.R_new' (Kd.R_new' ho0 (Kd.R_lt (by (with_reducible repeat (first | apply Kd.R_alloc | apply Kd.R_drewN | apply Kd.R_drew)); exact HO_7.out))) (Kd.R_lt (by (with_reducible repeat (first | apply Kd.R_alloc | apply Kd.R_drewN | apply Kd.R_drew)); exact HO_9.out))) (Kd.R_lt (by (with_reducible repeat (first | apply Kd.R_alloc | apply Kd.R_drewN | apply Kd.R_drew)); exact HO_10.out))) (Kd.R_lt (by (with_reducible repeat (first | apply Kd.R_alloc | apply Kd.R_drewN | apply Kd.R_drew)); exact HO_11.out))) (Kd.R_lt (by (with_reducible repeat (first | apply Kd.R_alloc | apply Kd.R_drewN | apply Kd.R_drew)); exact HO589.out))) (bwZ bw_38)); replace HO_7 := Az.mk (Kd.R_elder' (by (with_reducible repeat (first | apply Kd.R_alloc | apply Kd.R_drewN | apply Kd.R_drew)); exact HO_7.out) (Kd.R_base ho0) hb); replace HO_9 := Az.mk (Kd.R_elder' (by (with_reducible repeat (first | apply Kd.R_alloc | apply Kd.R_drewN | apply Kd.R_drew)); exact HO_9.out) (Kd.R_base ho0) hb); replace HO_10 := Az.mk (Kd.R_elder' (by (with_reducible repeat (first | apply Kd.R_alloc | apply Kd.R_drewN | apply Kd.R_drew)); exact HO_10.out) (Kd.R_base ho0) hb); replace HO_11 := Az.mk (Kd.R_elder' (by (with_reducible repeat (first | apply Kd.R_alloc | apply Kd.R_drewN | apply Kd.R_drew)); exact HO_11.out) (Kd.R_base ho0) hb); replace HO589 := Az.mk (Kd.R_elder' (by (with_reducible repeat (first | apply Kd.R_alloc | apply Kd.R_drewN | apply Kd.R_drew)); exact HO589.out) (Kd.R_base ho0) hb); replace HB := Az.mk (bwT bw_38 hb); (try clear hb); (try clear ho0); obtain ⟨Ao42, co42, eo42⟩ := Kd.R_slice HO593.out; subst eo42) | ((with_reducible refine gtC (f := 12) rfl ?_); refine goesL_ (some 61) rfl rfl Try.func12 (by kernel_rfl) rfl #[.slice Ao21 t579.length co21, .slice Ao42 t591.length co42] rfl ln_38 ?_; (with_reducible refine (laws_eqIntS.calls kj11 _ _ t579 _ _ t591 true _ ?side1 ?side2 ?side3 ?side4 A34.out).mono ?_); (case side1 => repeat (first | exact (Kd.R_reads' HO_10.out).2.2 | (with_reducible refine Kd.C_alloc ?_ _) | (with_reducible refine Kd.C_drewN ?_ _) | (with_reducible refine Kd.C_drew ?_))); (case side2 => exact (Kd.R_reads' HO_10.out).2.1); (case side3 => repeat (first | exact (Kd.R_reads' HO593.out).2.2 | (with_reducible refine Kd.C_alloc ?_ _) | (with_reducible refine Kd.C_drewN ?_ _) | (with_reducible refine Kd.C_drew ?_))); (case side4 => exact (Kd.R_reads' HO593.out).2.1); rintro e w' ⟨rfl, ⟨nd, rfl⟩⟩; refine ⟨_, rfl, ?_⟩) | ((with_reducible refine gtC (f := 19) rfl ?_); refine goesL_ (some 65) rfl rfl Try.func19 (by kernel_rfl) rfl #[.slice Ao20 t576.length co20, .int .i64 1] rfl ln_38 ?_; (with_reducible refine (laws_markIntS.calls kj11 (fun k_ => some k_ = (.slice Ao20 t576.length co20 : Value).ownBlock) (.slice Ao20 t576.length co20) t576 1 t595 t596 w _ ?side1 ?side2 A36.out).mono ?_); (case side1 => repeat (first | (with_reducible first | exact HB.out | apply bwA | apply pbN | apply bwD) | exact HB.out)); (case side2 => exact Kd.R_tight rfl HO_9.out); rintro e w43 ⟨rfl, hy0, hb, hkp⟩; refine ⟨_, rfl, ?_⟩; replace HO_7 := Az.mk (Kd.R_mono (ok' := fun k_ => some k_ ≠ (.slice Ao20 t576.length co20 : Value).ownBlock ∧ some k_ ≠ (.slice Ao21 t579.length co21 : Value).ownBlock ∧ some k_ ≠ (v584 : Value).ownBlock ∧ some k_ ≠ (.slice Ao40 t587.length co40 : Value).ownBlock ∧ some k_ ≠ (.slice Ao42 t591.length co42 : Value).ownBlock) (Kd.R_keptB (HO_7.out) hkp (fun k_ hk_ hs_ => (hk_.1.1.1) hs_)) (fun k_ hk_ => ⟨hk_.1.1.1.1, hk_.1.1.1.2.1, hk_.1.1.1.2.2, hk_.1.1.2, hk_.1.2⟩)); replace HO_9 := Az.mk (Kd.R_reok rfl hy0 (fun k_ e_ => HO_9.out.1 k_ e_)); replace HO_10 := Az.mk (Kd.R_mono (ok' := fun k_ => some k_ ≠ (v574 : Value).ownBlock ∧ some k_ ≠ (.slice Ao20 t576.length co20 : Value).ownBlock ∧ some k_ ≠ (v584 : Value).ownBlock ∧ some k_ ≠ (.slice Ao40 t587.length co40 : Value).ownBlock ∧ some k_ ≠ (.slice Ao42 t591.length co42 : Value).ownBlock) (Kd.R_keptB (HO_10.out) hkp (fun k_ hk_ hs_ => (hk_.1.1.2.1) hs_)) (fun k_ hk_ => ⟨hk_.1.1.1.1, hk_.1.1.1.2.1, hk_.1.1.1.2.2, hk_.1.1.2, hk_.1.2⟩)); replace HO_11 := Az.mk (Kd.R_mono (ok' := fun k_ => some k_ ≠ (v574 : Value).ownBlock ∧ some k_ ≠ (.slice Ao20 t576.length co20 : Value).ownBlock ∧ some k_ ≠ (.slice Ao21 t579.length co21 : Value).ownBlock ∧ some k_ ≠ (.slice Ao40 t587.length co40 : Value).ownBlock ∧ some k_ ≠ (.slice Ao42 t591.length co42 : Value).ownBlock) (Kd.R_keptB (HO_11.out) hkp (fun k_ hk_ hs_ => (hk_.1.1.2.1) hs_)) (fun k_ hk_ => ⟨hk_.1.1.1.1, hk_.1.1.1.2.1, hk_.1.1.1.2.2, hk_.1.1.2, hk_.1.2⟩)); replace HO589 := Az.mk (Kd.R_mono (ok' := fun k_ => some k_ ≠ (v574 : Value).ownBlock ∧ some k_ ≠ (.slice Ao20 t576.length co20 : Value).ownBlock ∧ some k_ ≠ (.slice Ao21 t579.length co21 : Value).ownBlock ∧ some k_ ≠ (v584 : Value).ownBlock ∧ some k_ ≠ (.slice Ao42 t591.length co42 : Value).ownBlock) (Kd.R_keptB (HO589.out) hkp (fun k_ hk_ hs_ => (hk_.1.1.1.2) hs_)) (fun k_ hk_ => ⟨hk_.1.1.1.1.1.2, hk_.1.1.1.1.2, hk_.1.1.1.2, hk_.1.1.2, hk_.1.2⟩)); replace HO593 := Az.mk (Kd.R_mono (ok' := fun k_ => some k_ ≠ (v574 : Value).ownBlock ∧ some k_ ≠ (.slice Ao20 t576.length co20 : Value).ownBlock ∧ some k_ ≠ (.slice Ao21 t579.length co21 : Value).ownBlock ∧ some k_ ≠ (v584 : Value).ownBlock ∧ some k_ ≠ (.slice Ao40 t587.length co40 : Value).ownBlock) (Kd.R_keptB (HO593.out) hkp (fun k_ hk_ hs_ => (hk_.1.1.1.2) hs_)) (fun k_ hk_ => ⟨hk_.1.1.1.1.1.2, hk_.1.1.1.1.2, hk_.1.1.1.2, hk_.1.1.2, hk_.1.2⟩)); replace HB := Az.mk (hb); (try clear hb); (try clear hkp); (try clear hy0)) | ((with_reducible refine gtC (f := 19) rfl ?_); refine goesL_ (some 68) rfl rfl Try.func19 (by kernel_rfl) rfl #[.slice Ao21 t579.length co21, .int .i64 t595] rfl ln_38 ?_; (with_reducible refine (laws_markIntS.calls kj11 (fun k_ => some k_ = (.slice Ao21 t579.length co21 : Value).ownBlock) (.slice Ao21 t579.length co21) t579 t595 t597 t598 w _ ?side1 ?side2 A37.out).mono ?_); (case side1 => repeat (first | (with_reducible first | exact HB.out | apply bwA | apply pbN | apply bwD) | exact HB.out)); (case side2 => exact Kd.R_tight rfl HO_10.out); rintro e w44 ⟨rfl, hy0, hb, hkp⟩; refine ⟨_, rfl, ?_⟩; replace HO_7 := Az.mk (Kd.R_mono (ok' := fun k_ => some k_ ≠ (.slice Ao20 t576.length co20 : Value).ownBlock ∧ some k_ ≠ (.slice Ao21 t579.length co21 : Value).ownBlock ∧ some k_ ≠ (v584 : Value).ownBlock ∧ some k_ ≠ (.slice Ao40 t587.length co40 : Value).ownBlock ∧ some k_ ≠ (.slice Ao42 t591.length co42 : Value).ownBlock) (Kd.R_keptB (HO_7.out) hkp (fun k_ hk_ hs_ => (hk_.2.1) hs_)) (fun k_ hk_ => ⟨hk_.1.1, hk_.1.2.1, hk_.1.2.2.1, hk_.1.2.2.2.1, hk_.1.2.2.2.2⟩)); replace HO_9 := Az.mk (Kd.R_mono (ok' := fun k_ => some k_ ≠ (v574 : Value).ownBlock ∧ some k_ ≠ (.slice Ao21 t579.length co21 : Value).ownBlock ∧ some k_ ≠ (v584 : Value).ownBlock ∧ some k_ ≠ (.slice Ao40 t587.length co40 : Value).ownBlock ∧ some k_ ≠ (.slice Ao42 t591.length co42 : Value).ownBlock) (Kd.R_keptB (HO_9.out) hkp (fun k_ hk_ hs_ => (hk_.1.1.2.1) hs_)) (fun k_ hk_ => ⟨hk_.1.1.1.1, hk_.1.1.1.2.1, hk_.1.1.1.2.2, hk_.1.1.2, hk_.1.2⟩)); replace HO_10 := Az.mk (Kd.R_reok rfl hy0 (fun k_ e_ => HO_10.out.1 k_ e_)); replace HO_11 := Az.mk (Kd.R_mono (ok' := fun k_ => some k_ ≠ (v574 : Value).ownBlock ∧ some k_ ≠ (.slice Ao20 t576.length co20 : Value).ownBlock ∧ some k_ ≠ (.slice Ao21 t579.length co21 : Value).ownBlock ∧ some k_ ≠ (.slice Ao40 t587.length co40 : Value).ownBlock ∧ some k_ ≠ (.slice Ao42 t591.length co42 : Value).ownBlock) (Kd.R_keptB (HO_11.out) hkp (fun k_ hk_ hs_ => (hk_.2.2.1) hs_)) (fun k_ hk_ => ⟨hk_.1.1, hk_.1.2.1, hk_.1.2.2.1, hk_.1.2.2.2.1, hk_.1.2.2.2.2⟩)); replace HO589 := Az.mk (Kd.R_mono (ok' := fun k_ => some k_ ≠ (v574 : Value).ownBlock ∧ some k_ ≠ (.slice Ao20 t576.length co20 : Value).ownBlock ∧ some k_ ≠ (.slice Ao21 t579.length co21 : Value).ownBlock ∧ some k_ ≠ (v584 : Value).ownBlock ∧ some k_ ≠ (.slice Ao42 t591.length co42 : Value).ownBlock) (Kd.R_keptB (HO589.out) hkp (fun k_ hk_ hs_ => (hk_.2.2.1) hs_)) (fun k_ hk_ => ⟨hk_.1.1, hk_.1.2.1, hk_.1.2.2.1, hk_.1.2.2.2.1, hk_.1.2.2.2.2⟩)); replace HO593 := Az.mk (Kd.R_mono (ok' := fun k_ => some k_ ≠ (v574 : Value).ownBlock ∧ some k_ ≠ (.slice Ao20 t576.length co20 : Value).ownBlock ∧ some k_ ≠ (.slice Ao21 t579.length co21 : Value).ownBlock ∧ some k_ ≠ (v584 : Value).ownBlock ∧ some k_ ≠ (.slice Ao40 t587.length co40 : Value).ownBlock) (Kd.R_keptB (HO593.out) hkp (fun k_ hk_ hs_ => (hk_.2.2.1) hs_)) (fun k_ hk_ => ⟨hk_.1.1, hk_.1.2.1, hk_.1.2.2.1, hk_.1.2.2.2.1, hk_.1.2.2.2.2⟩)); replace HB := Az.mk (hb); (try clear hb); (try clear hkp); (try clear hy0)))
   (try simp only [Act.put, List.setIfInBounds_toArray, List.set_cons_zero, List.set_cons_succ])
   go_cut [81] (fun v81 wc => ∃ (kq : Nat) (x81_37 : Bool), v81 = .bool x81_37 ∧ Az (laws_FnExactTwistCurve.j1 kq l0 l1 a2 t572 t573 t582 x81_37 = some r) ∧ Az (kq ≤ kj11) ∧ Az (Kd.R (Kd.int .i64) 3 wc w.heap.size (fun k_ => some k_ ≠ (v584 : Value).ownBlock) v574 t572) ∧ Az (Kd.R (Kd.int .i64) 3 wc w.heap.size (fun k_ => some k_ ≠ (v574 : Value).ownBlock) v584 t582) ∧ Az (Below w.heap.size w wc))
   case first =>
    have H := HC38.out
    clear HC38
    by_cases c45 : t597 < 0
    ·rw [if_pos c45] at H
     have c45b0 : decide (t597 < 0) = true := decide_eq_true c45
     clear c45
     (first | rw [c45b0] | (simp only [i64_w, i32_w]; rw [c45b0]) | skip)
     have H' := Az.mk H
     clear H
     go_wp2
     go_meet
     case rel => exact ⟨_, (true), (by first | rfl | (simp; done) | (simp [*]; done)), H', ⟨by have := HJ11.out; first | omega | exact Nat.le_refl _⟩, ⟨by (with_reducible repeat (first | apply Kd.R_alloc | apply Kd.R_drewN | apply Kd.R_drew)); exact Kd.R_mono HO_7.out (fun _ hk => hk.2.2.1)⟩, ⟨by (with_reducible repeat (first | apply Kd.R_alloc | apply Kd.R_drewN | apply Kd.R_drew)); exact Kd.R_mono HO_11.out (fun _ hk => hk.1)⟩, ⟨bw_38⟩⟩
    rw [if_neg c45] at H
    have c45b0 : decide (t597 < 0) = false := decide_eq_false c45
    clear c45
    (first | rw [c45b0] | (simp only [i64_w, i32_w]; rw [c45b0]) | skip)
    replace H := be.mp H
    obtain ⟨t599, A460, H⟩ := H
    try dsimp only at H
    have A46 := Az.mk A460
    clear A460
    by_cases c47 : t599 = true
    ·subst c47
     rw [if_pos rfl] at H
     have H' := Az.mk H
     clear H
     obtain ⟨Ao48, co48, eo48⟩ := Kd.R_slice HO_11.out
     subst eo48
     obtain ⟨Ao49, co49, eo49⟩ := Kd.R_slice HO_7.out
     subst eo49
     go_wp2_with (first | (go_at_call 12; (with_reducible refine (laws_eqIntS.calls kj11 _ _ t582 _ _ t572 true _ ?side1 ?side2 ?side3 ?side4 A46.out).mono ?_); (case side1 => repeat (first | exact (Kd.R_reads' HO_11.out).2.2 | (with_reducible refine Kd.C_alloc ?_ _) | (with_reducible refine Kd.C_drewN ?_ _) | (with_reducible refine Kd.C_drew ?_))); (case side2 => exact (Kd.R_reads' HO_11.out).2.1); (case side3 => repeat (first | exact (Kd.R_reads' HO_7.out).2.2 | (with_reducible refine Kd.C_alloc ?_ _) | (with_reducible refine Kd.C_drewN ?_ _) | (with_reducible refine Kd.C_drew ?_))); (case side4 => exact (Kd.R_reads' HO_7.out).2.1); rintro e w' ⟨rfl, ⟨nd, rfl⟩⟩))
     go_meet
     case rel => exact ⟨_, ((t583 != t573)), (by first | rfl | (simp; done) | (simp [*]; done)), H', ⟨by have := HJ11.out; first | omega | exact Nat.le_refl _⟩, ⟨by (with_reducible repeat (first | apply Kd.R_alloc | apply Kd.R_drewN | apply Kd.R_drew)); exact Kd.R_mono HO_7.out (fun _ hk => hk.2.2.1)⟩, ⟨by (with_reducible repeat (first | apply Kd.R_alloc | apply Kd.R_drewN | apply Kd.R_drew)); exact Kd.R_mono HO_11.out (fun _ hk => hk.1)⟩, ⟨bw_38⟩⟩
    replace c47 := Bool.eq_false_iff.mpr c47
    subst c47
    rw [if_neg (show ¬ (false = true) by decide)] at H
    have H' := Az.mk H
    clear H
    obtain ⟨Ao50, co50, eo50⟩ := Kd.R_slice HO_11.out
    subst eo50
    obtain ⟨Ao51, co51, eo51⟩ := Kd.R_slice HO_7.out
    subst eo51
    go_wp2_with (first | (go_at_call 12; (with_reducible refine (laws_eqIntS.calls kj11 _ _ t582 _ _ t572 false _ ?side1 ?side2 ?side3 ?side4 A46.out).mono ?_); (case side1 => repeat (first | exact (Kd.R_reads' HO_11.out).2.2 | (with_reducible refine Kd.C_alloc ?_ _) | (with_reducible refine Kd.C_drewN ?_ _) | (with_reducible refine Kd.C_drew ?_))); (case side2 => exact (Kd.R_reads' HO_11.out).2.1); (case side3 => repeat (first | exact (Kd.R_reads' HO_7.out).2.2 | (with_reducible refine Kd.C_alloc ?_ _) | (with_reducible refine Kd.C_drewN ?_ _) | (with_reducible refine Kd.C_drew ?_))); (case side4 => exact (Kd.R_reads' HO_7.out).2.1); rintro e w' ⟨rfl, ⟨nd, rfl⟩⟩))
    go_meet
    case rel => exact ⟨_, (true), (by first | rfl | (simp; done) | (simp [*]; done)), H', ⟨by have := HJ11.out; first | omega | exact Nat.le_refl _⟩, ⟨by (with_reducible repeat (first | apply Kd.R_alloc | apply Kd.R_drewN | apply Kd.R_drew)); exact Kd.R_mono HO_7.out (fun _ hk => hk.2.2.1)⟩, ⟨by (with_reducible repeat (first | apply Kd.R_alloc | apply Kd.R_drewN | apply Kd.R_drew)); exact Kd.R_mono HO_11.out (fun _ hk => hk.1)⟩, ⟨bw_38⟩⟩
   case rest =>
    clear HC38
    try clear c1
    try clear c2
    try clear p2
    try clear c3
    try clear c4
    try clear c4b0
    try clear c4b1
    try clear c5
    try clear c5b0
    try clear c5b1
    try clear c6
    try clear c9
    try clear c12
    try clear c17
    try clear c18
    try clear c19
    try clear c24
    try clear c29
    try clear c32
    try clear c35
    try clear c45
    try clear c45b0
    try clear c47
    try clear p2
    obtain ⟨kq, x81_37, rfl, HA, HJ37, HO_7, HO_11, HB⟩ := hcut
    cases kq with
    | zero => exact absurd HA.out (by simp [laws_FnExactTwistCurve.j1])
    | succ kj37 =>
     have H := HA.out
     clear HA
     simp only [laws_FnExactTwistCurve.j1] at H
     by_cases c52 : x81_37 = true
     ·subst c52
      rw [if_pos rfl] at H
      exact absurd H (by simp)
     replace c52 := Bool.eq_false_iff.mpr c52
     subst c52
     rw [if_neg (show ¬ (false = true) by decide)] at H
     replace H := be.mp H
     obtain ⟨⟨t600, t601⟩, A530, H⟩ := H
     try dsimp only at H
     have A53 := Az.mk A530
     clear A530
     replace H := be.mp H
     obtain ⟨t602, A540, H⟩ := H
     try dsimp only at H
     have A54 := Az.mk A540
     clear A540
     by_cases c55 : t602 < 0
     ·rw [if_pos c55] at H
      exact absurd H (by simp)
     rw [if_neg c55] at H
     have c55b0 : decide (t602 < 0) = false := decide_eq_false c55
     clear c55
     by_cases c56 : t602 = t600
     rotate_left
     ·rw [if_neg c56] at H
      exact absurd H (by simp)
     rw [if_pos c56] at H
     have c56b0 : (t602 == t600) = true := beq_iff_eq.mpr c56
     have c56b1 : (t602 != t600) = false := bne_eq_false_iff_eq.mpr c56
     clear c56
     replace H := be.mp H
     obtain ⟨t603, A570, H⟩ := H
     try dsimp only at H
     have A57 := Az.mk A570
     clear A570
     replace H := be.mp H
     obtain ⟨t606, A580, H⟩ := H
     try dsimp only at H
     have A58 := Az.mk A580
     clear A580
     replace H := be.mp H
     obtain ⟨⟨t609, t610⟩, A590, H⟩ := H
     try dsimp only at H
     have A59 := Az.mk A590
     clear A590
     have HC60 := Az.mk H
     clear H
     obtain ⟨Ao61, co61, eo61⟩ := Kd.R_slice HO_11.out
     subst eo61
     go_upto_region 29 with (first | ((with_reducible refine gtC (f := 19) rfl ?_); refine goesL_ (some 84) rfl rfl Try.func19 (by kernel_rfl) rfl #[.slice Ao61 t582.length co61, .int .i64 1] rfl ln_38 ?_; (with_reducible refine (laws_markIntS.calls kj37 (fun k_ => some k_ = (.slice Ao61 t582.length co61 : Value).ownBlock) (.slice Ao61 t582.length co61) t582 1 t600 t601 w _ ?side1 ?side2 A53.out).mono ?_); (case side1 => repeat (first | (with_reducible first | exact HB.out | apply bwA | apply pbN | apply bwD) | exact HB.out)); (case side2 => exact Kd.R_tight rfl HO_11.out); rintro e w62 ⟨rfl, hy0, hb, hkp⟩; refine ⟨_, rfl, ?_⟩; replace HO_7 := Az.mk (Kd.R_mono (ok' := fun k_ => some k_ ≠ (.slice Ao61 t582.length co61 : Value).ownBlock) (Kd.R_keptB (HO_7.out) hkp (fun k_ hk_ hs_ => (hk_) hs_)) (fun k_ hk_ => hk_.1)); replace HO_11 := Az.mk (Kd.R_reok rfl hy0 (fun k_ e_ => HO_11.out.1 k_ e_)); replace HB := Az.mk (hb); (try clear hb); (try clear hkp); (try clear hy0)) | ((with_reducible refine gtC (f := 20) rfl ?_); refine goesL_ (some 87) rfl rfl Try.func20 (by kernel_rfl) rfl #[.slice Ao61 t601.length co61, .int .i64 1] rfl (by (try simp only [List.map_toArray, List.map_cons, List.map_nil]); first | done | (rw [show t601.length = t582.length from (Kd.R_reads' HO_11.out).1.symm] <;> rfl) | rfl | (simp only [List.length_drop, List.length_take]; rfl)) ?_; (with_reducible refine (laws_heldIntS.calls kj37 _ _ t601 1 t602 _ ?side1 ?side2 A54.out).mono ?_); (case side1 => repeat (first | exact (Kd.R_reads' HO_11.out).2.2 | (with_reducible refine Kd.C_alloc ?_ _) | (with_reducible refine Kd.C_drewN ?_ _) | (with_reducible refine Kd.C_drew ?_))); (case side2 => rw [show t601.length = t582.length from (Kd.R_reads' HO_11.out).1.symm]; exact (Kd.R_reads' HO_11.out).2.1); rintro e w' ⟨rfl, ⟨nd, rfl⟩⟩; refine ⟨_, rfl, ?_⟩) | ((with_reducible refine gtC (f := 9) rfl ?_); refine goesL_ (some 95) rfl rfl Try.func9 (by kernel_rfl) rfl #[.slice A0 l0.length c0] rfl ln_38 ?_; (with_reducible refine (laws_toIntS.calls kj37 _ _ l0 t603 _ ?side1 ?side2 A57.out).mono ?_); (case side1 => repeat (first | exact (Kd.C_below HR0.out bw_38) | (with_reducible refine Kd.C_alloc ?_ _) | (with_reducible refine Kd.C_drewN ?_ _) | (with_reducible refine Kd.C_drew ?_))); (case side2 => exact HC0.out); rintro e w63 ⟨v604, rfl, ho0, hb⟩; refine ⟨_, rfl, ?_⟩; have HO605 := Az.mk (Kd.R_lower (Kd.R_new' (Kd.R_new' ho0 (Kd.R_lt (by (with_reducible repeat (first | apply Kd.R_alloc | apply Kd.R_drewN | apply Kd.R_drew)); exact HO_7.out))) (Kd.R_lt (by (with_reducible repeat (first | apply Kd.R_alloc | apply Kd.R_drewN | apply Kd.R_drew)); exact HO_11.out))) (bwZ bw_38)); replace HO_7 := Az.mk (Kd.R_elder' (by (with_reducible repeat (first | apply Kd.R_alloc | apply Kd.R_drewN | apply Kd.R_drew)); exact HO_7.out) (Kd.R_base ho0) hb); replace HO_11 := Az.mk (Kd.R_elder' (by (with_reducible repeat (first | apply Kd.R_alloc | apply Kd.R_drewN | apply Kd.R_drew)); exact HO_11.out) (Kd.R_base ho0) hb); replace HB := Az.mk (bwT bw_38 hb); (try clear hb); (try clear ho0)) | ((with_reducible refine gtC (f := 9) rfl ?_); refine goesL_ (some 97) rfl rfl Try.func9 (by kernel_rfl) rfl #[.slice A1 l1.length c1] rfl ln_38 ?_; (with_reducible refine (laws_toIntS.calls kj37 _ _ l1 t606 _ ?side1 ?side2 A58.out).mono ?_); (case side1 => repeat (first | exact (Kd.C_below HR1.out HB.out) | (with_reducible refine Kd.C_alloc ?_ _) | (with_reducible refine Kd.C_drewN ?_ _) | (with_reducible refine Kd.C_drew ?_))); (case side2 => exact HC1.out); rintro e w64 ⟨v607, rfl, ho0, hb⟩; refine ⟨_, rfl, ?_⟩; have HO608 := Az.mk (Kd.R_lower (Kd.R_new' (Kd.R_new' (Kd.R_new' ho0 (Kd.R_lt (by (with_reducible repeat (first | apply Kd.R_alloc | apply Kd.R_drewN | apply Kd.R_drew)); exact HO_7.out))) (Kd.R_lt (by (with_reducible repeat (first | apply Kd.R_alloc | apply Kd.R_drewN | apply Kd.R_drew)); exact HO_11.out))) (Kd.R_lt (by (with_reducible repeat (first | apply Kd.R_alloc | apply Kd.R_drewN | apply Kd.R_drew)); exact HO605.out))) (bwZ bw_38)); replace HO_7 := Az.mk (Kd.R_elder' (by (with_reducible repeat (first | apply Kd.R_alloc | apply Kd.R_drewN | apply Kd.R_drew)); exact HO_7.out) (Kd.R_base ho0) hb); replace HO_11 := Az.mk (Kd.R_elder' (by (with_reducible repeat (first | apply Kd.R_alloc | apply Kd.R_drewN | apply Kd.R_drew)); exact HO_11.out) (Kd.R_base ho0) hb); replace HO605 := Az.mk (Kd.R_elder' (by (with_reducible repeat (first | apply Kd.R_alloc | apply Kd.R_drewN | apply Kd.R_drew)); exact HO605.out) (Kd.R_base ho0) hb); replace HB := Az.mk (bwT bw_38 hb); (try clear hb); (try clear ho0); obtain ⟨Ao65, co65, eo65⟩ := Kd.R_slice HO605.out; subst eo65; obtain ⟨Ao66, co66, eo66⟩ := Kd.R_slice HO608.out; subst eo66) | ((with_reducible refine gtC (f := 18) rfl ?_); refine goesL_ (some 99) rfl rfl Try.func18 (by kernel_rfl) rfl #[.slice Ao65 t603.length co65, .slice Ao66 t606.length co66, .int .i64 a2] rfl ln_38 ?_; (with_reducible refine (impl_TwistCurve.calls kj37 _ _ t603 _ _ t606 a2 t609 t610 _ ?side1 ?side2 ?side3 ?side4 A59.out).mono ?_); (case side1 => repeat (first | exact (Kd.R_reads' HO605.out).2.2 | (with_reducible refine Kd.C_alloc ?_ _) | (with_reducible refine Kd.C_drewN ?_ _) | (with_reducible refine Kd.C_drew ?_))); (case side2 => exact (Kd.R_reads' HO605.out).2.1); (case side3 => repeat (first | exact (Kd.R_reads' HO608.out).2.2 | (with_reducible refine Kd.C_alloc ?_ _) | (with_reducible refine Kd.C_drewN ?_ _) | (with_reducible refine Kd.C_drew ?_))); (case side4 => exact (Kd.R_reads' HO608.out).2.1); rintro e w67 ⟨v611, rfl, ho0, hb⟩; refine ⟨_, rfl, ?_⟩; have HO612 := Az.mk (Kd.R_lower (Kd.R_new' (Kd.R_new' (Kd.R_new' (Kd.R_new' ho0 (Kd.R_lt (by (with_reducible repeat (first | apply Kd.R_alloc | apply Kd.R_drewN | apply Kd.R_drew)); exact HO_7.out))) (Kd.R_lt (by (with_reducible repeat (first | apply Kd.R_alloc | apply Kd.R_drewN | apply Kd.R_drew)); exact HO_11.out))) (Kd.R_lt (by (with_reducible repeat (first | apply Kd.R_alloc | apply Kd.R_drewN | apply Kd.R_drew)); exact HO605.out))) (Kd.R_lt (by (with_reducible repeat (first | apply Kd.R_alloc | apply Kd.R_drewN | apply Kd.R_drew)); exact HO608.out))) (bwZ bw_38)); replace HO_7 := Az.mk (Kd.R_elder' (by (with_reducible repeat (first | apply Kd.R_alloc | apply Kd.R_drewN | apply Kd.R_drew)); exact HO_7.out) (Kd.R_base ho0) hb); replace HO_11 := Az.mk (Kd.R_elder' (by (with_reducible repeat (first | apply Kd.R_alloc | apply Kd.R_drewN | apply Kd.R_drew)); exact HO_11.out) (Kd.R_base ho0) hb); replace HO605 := Az.mk (Kd.R_elder' (by (with_reducible repeat (first | apply Kd.R_alloc | apply Kd.R_drewN | apply Kd.R_drew)); exact HO605.out) (Kd.R_base ho0) hb); replace HO608 := Az.mk (Kd.R_elder' (by (with_reducible repeat (first | apply Kd.R_alloc | apply Kd.R_drewN | apply Kd.R_drew)); exact HO608.out) (Kd.R_base ho0) hb); replace HB := Az.mk (bwT bw_38 hb); (try clear hb); (try clear ho0)))
     (try simp only [Act.put, List.setIfInBounds_toArray, List.set_cons_zero, List.set_cons_succ])
     go_cut [110] (fun v110 wc => ∃ (kq : Nat) (x110_59 : Bool), v110 = .bool x110_59 ∧ Az (laws_FnExactTwistCurve.j2 kq t601 t600 x110_59 = some r) ∧ Az (kq ≤ kj37) ∧ Az (Kd.R (Kd.int .i64) 3 wc w.heap.size (fun _ => True) (.slice Ao61 t582.length co61) t601) ∧ Az (Below w.heap.size w wc))
     case first =>
      have H := HC60.out
      clear HC60
      replace H := be.mp H
      obtain ⟨t613, A680, H⟩ := H
      try dsimp only at H
      have A68 := Az.mk A680
      clear A680
      by_cases c69 : t613 = true
      ·subst c69
       rw [if_pos rfl] at H
       have H' := Az.mk H
       clear H
       obtain ⟨Ao70, co70, eo70⟩ := Kd.R_slice HO612.out
       subst eo70
       obtain ⟨Ao71, co71, eo71⟩ := Kd.R_slice HO_7.out
       subst eo71
       go_wp2_with (first | ((with_reducible refine gtC (f := 12) rfl ?_); refine goesL_ (some 104) rfl rfl Try.func12 (by kernel_rfl) rfl #[.slice Ao70 t609.length co70, .slice Ao71 t572.length co71] rfl ln_38 ?_; (with_reducible refine (laws_eqIntS.calls kj37 _ _ t609 _ _ t572 true _ ?side1 ?side2 ?side3 ?side4 A68.out).mono ?_); (case side1 => repeat (first | exact (Kd.R_reads' HO612.out).2.2 | (with_reducible refine Kd.C_alloc ?_ _) | (with_reducible refine Kd.C_drewN ?_ _) | (with_reducible refine Kd.C_drew ?_))); (case side2 => exact (Kd.R_reads' HO612.out).2.1); (case side3 => repeat (first | exact (Kd.R_reads' HO_7.out).2.2 | (with_reducible refine Kd.C_alloc ?_ _) | (with_reducible refine Kd.C_drewN ?_ _) | (with_reducible refine Kd.C_drew ?_))); (case side4 => exact (Kd.R_reads' HO_7.out).2.1); rintro e w' ⟨rfl, ⟨nd, rfl⟩⟩; refine ⟨_, rfl, ?_⟩))
       go_meet
       case rel => exact ⟨_, ((t610 != t573)), (by first | rfl | (simp; done) | (simp [*]; done)), H', ⟨by have := HJ11.out; have := HJ37.out; first | omega | exact Nat.le_refl _⟩, ⟨by (with_reducible repeat (first | apply Kd.R_alloc | apply Kd.R_drewN | apply Kd.R_drew)); exact Kd.R_mono HO_11.out (fun _ hk => trivial)⟩, ⟨bw_38⟩⟩
      replace c69 := Bool.eq_false_iff.mpr c69
      subst c69
      rw [if_neg (show ¬ (false = true) by decide)] at H
      have H' := Az.mk H
      clear H
      obtain ⟨Ao72, co72, eo72⟩ := Kd.R_slice HO612.out
      subst eo72
      obtain ⟨Ao73, co73, eo73⟩ := Kd.R_slice HO_7.out
      subst eo73
      go_wp2_with (first | ((with_reducible refine gtC (f := 12) rfl ?_); refine goesL_ (some 104) rfl rfl Try.func12 (by kernel_rfl) rfl #[.slice Ao72 t609.length co72, .slice Ao73 t572.length co73] rfl ln_38 ?_; (with_reducible refine (laws_eqIntS.calls kj37 _ _ t609 _ _ t572 false _ ?side1 ?side2 ?side3 ?side4 A68.out).mono ?_); (case side1 => repeat (first | exact (Kd.R_reads' HO612.out).2.2 | (with_reducible refine Kd.C_alloc ?_ _) | (with_reducible refine Kd.C_drewN ?_ _) | (with_reducible refine Kd.C_drew ?_))); (case side2 => exact (Kd.R_reads' HO612.out).2.1); (case side3 => repeat (first | exact (Kd.R_reads' HO_7.out).2.2 | (with_reducible refine Kd.C_alloc ?_ _) | (with_reducible refine Kd.C_drewN ?_ _) | (with_reducible refine Kd.C_drew ?_))); (case side4 => exact (Kd.R_reads' HO_7.out).2.1); rintro e w' ⟨rfl, ⟨nd, rfl⟩⟩; refine ⟨_, rfl, ?_⟩))
      go_meet
      case rel => exact ⟨_, (true), (by first | rfl | (simp; done) | (simp [*]; done)), H', ⟨by have := HJ11.out; have := HJ37.out; first | omega | exact Nat.le_refl _⟩, ⟨by (with_reducible repeat (first | apply Kd.R_alloc | apply Kd.R_drewN | apply Kd.R_drew)); exact Kd.R_mono HO_11.out (fun _ hk => trivial)⟩, ⟨bw_38⟩⟩
     case rest =>
      clear HC60
      try clear c1
      try clear c2
      try clear p2
      try clear c3
      try clear c4
      try clear c4b0
      try clear c4b1
      try clear c5
      try clear c5b0
      try clear c5b1
      try clear c6
      try clear c9
      try clear c12
      try clear c17
      try clear c18
      try clear c19
      try clear c20
      try clear c24
      try clear c29
      try clear c32
      try clear c35
      try clear c45
      try clear c45b0
      try clear c47
      try clear c52
      try clear c55
      try clear c55b0
      try clear c56
      try clear c56b0
      try clear c56b1
      try clear c69
      try clear p2
      obtain ⟨kq, x110_59, rfl, HA, HJ59, HO_11, HB⟩ := hcut
      have hl11_59 := (Kd.R_reads' HO_11.out).1
      rw [hl11_59] at HO_11
      (try simp only [hl11_59])
      cases kq with
      | zero => exact absurd HA.out (by simp [laws_FnExactTwistCurve.j2])
      | succ kj59 =>
       have H := HA.out
       clear HA
       simp only [laws_FnExactTwistCurve.j2] at H
       by_cases c74 : x110_59 = true
       ·subst c74
        rw [if_pos rfl] at H
        exact absurd H (by simp)
       replace c74 := Bool.eq_false_iff.mpr c74
       subst c74
       rw [if_neg (show ¬ (false = true) by decide)] at H
       replace H := be.mp H
       obtain ⟨t614, A750, H⟩ := H
       try dsimp only at H
       have A75 := Az.mk A750
       clear A750
       by_cases c76 : t614 < 0
       ·rw [if_pos c76] at H
        exact absurd H (by simp)
       rw [if_neg c76] at H
       have c76b0 : decide (t614 < 0) = false := decide_eq_false c76
       clear c76
       by_cases c77 : t614 = t600
       rotate_left
       ·rw [if_neg c77] at H
        exact absurd H (by simp)
       rw [if_pos c77] at H
       have c77b0 : (t614 == t600) = true := beq_iff_eq.mpr c77
       have c77b1 : (t614 != t600) = false := bne_eq_false_iff_eq.mpr c77
       clear c77
       obtain rfl := Option.some.inj H
       go_wp2_with (first | ((with_reducible refine gtC (f := 20) rfl ?_); refine goesL_ (some 113) rfl rfl Try.func20 (by kernel_rfl) rfl #[.slice Ao61 t601.length co61, .int .i64 1] rfl ln_38 ?_; (with_reducible refine (laws_heldIntS.calls kj59 _ _ t601 1 t614 _ ?side1 ?side2 A75.out).mono ?_); (case side1 => repeat (first | exact (Kd.R_reads' HO_11.out).2.2 | (with_reducible refine Kd.C_alloc ?_ _) | (with_reducible refine Kd.C_drewN ?_ _) | (with_reducible refine Kd.C_drew ?_))); (case side2 => exact (Kd.R_reads' HO_11.out).2.1); rintro e w' ⟨rfl, ⟨nd, rfl⟩⟩; refine ⟨_, rfl, ?_⟩))
       go_ret
       exact ⟨by first | rfl | (simp [eWn, eWs] <;> rfl) | (simp [*, eWn, eWs] <;> rfl), bw_38⟩

/-- THE ONE PURE STATEMENT of laws_FnExactTwistCurve: yours. -/
def laws_FnExactTwistCurve.Pure : Prop := ∀ (l0 : List Int) (l1 : List Int) (a2 : Int), l0.length ≤ maxLen → l0.length * 8 ≤ 140737488351232 → (∀ x ∈ l0, (Lit.int .i64 x).wf = true) → l1.length ≤ maxLen → l1.length * 8 ≤ 140737488351232 → (∀ x ∈ l1, (Lit.int .i64 x).wf = true) → (Lit.int .i64 a2).wf = true → ∃ k, laws_FnExactTwistCurve.f k l0 l1 a2 = some true
theorem laws_FnExactTwistCurve.walk (P : laws_FnExactTwistCurve.Pure) (a0 : Option Addr) (len0 cap0 : Nat) (z0 : List Int) (a1 : Option Addr) (len1 cap1 : Nat) (z1 : List Int) (a2 : Int) (w : World) (w0 : (a0 = none ∧ len0 = 0 ∧ cap0 = 0 ∧ z0 = []) ∨ ∃ x, a0 = some x ∧ len0 ≤ cap0 ∧ cap0 ≤ maxLen ∧ z0.length = cap0 ∧ (∀ i, i < z0.length → w.cell? (x.add i) = some (.int .i64 (z0.getD i 0))) ∧ ∀ n ∈ z0, (Lit.int .i64 n).wf = true) (y0 : len0 * 8 ≤ 140737488351232) (w1 : (a1 = none ∧ len1 = 0 ∧ cap1 = 0 ∧ z1 = []) ∨ ∃ x, a1 = some x ∧ len1 ≤ cap1 ∧ cap1 ≤ maxLen ∧ z1.length = cap1 ∧ (∀ i, i < z1.length → w.cell? (x.add i) = some (.int .i64 (z1.getD i 0))) ∧ ∀ n ∈ z1, (Lit.int .i64 n).wf = true) (y1 : len1 * 8 ≤ 140737488351232) (w2 : (Lit.int .i64 a2).wf = true) :
  Calls Try.prog 6 #[.slice a0 len0 cap0, .slice a1 len1 cap1, .int .i64 a2] w fun e w' => e = .returned (.bool true) ∧ Below w.heap.size w w' := by
 obtain ⟨l0, rfl, hr0, hm0, hw0, hc0⟩ := ReadsInt.ofRowC w0
 obtain ⟨l1, rfl, hr1, hm1, hw1, hc1⟩ := ReadsInt.ofRowC w1
 obtain ⟨k, h⟩ := P l0 l1 a2 hm0 y0 hw0 hm1 y1 hw1 w2
 refine (laws_FnExactTwistCurve.calls k _ _ l0 _ _ l1 a2 true w (Kd.C_of_reads (d := (0 : Int)) (h1 := fun _ => rfl) hr0) hc0 (Kd.C_of_reads (d := (0 : Int)) (h1 := fun _ => rfl) hr1) hc1 h).mono ?_
 rintro e w' ⟨rfl, hd⟩
 exact ⟨rfl, hd⟩

end Go.Proofs.Ytjmgbaphlhimhaa.P
