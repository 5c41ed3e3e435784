-- By this session's driver (wip/tools/mk.py) of the kit's print program, over several statements at once. Not trusted: Lean checks it.
import Derived.Test.YtkmjcdlhlhefdaaQWZip
import Derived.Test.YtkmjcdlhlhefdaaQPx0
import Derived.Test.YtkmjcdlhlhefdaaQPx1
import Derived.Test.YtkmjcdlhlhefdaaQPx2
import Derived.Test.YtkmjcdlhlhefdaaQPx5
import Derived.Test.YtkmjcdlhlhefdaaQPx10
import Derived.Test.YtkmjcdlhlhefdaaQPx12
import Derived.Test.YtkmjcdlhlhefdaaQPx15
import Derived.Test.YtkmjcdlhlhefdaaQPx16
import Derived.Test.YtkmjcdlhlhefdaaQPx17
import Derived.Test.YtkmjcdlhlhefdaaQPx18
import Derived.Test.YtkmjcdlhlhefdaaQPx21
import Derived.Test.YtkmjcdlhlhefdaaQPx22
import Derived.Test.YtkmjcdlhlhefdaaQPx23
import Derived.Test.YtkmjcdlhlhefdaaQPx24
import Derived.Test.YtkmjcdlhlhefdaaQPx25
import Derived.Test.YtkmjcdlhlhefdaaQPx26
import Derived.Test.YtkmjcdlhlhefdaaQPx28
import Derived.Test.YtkmjcdlhlhefdaaQPx31
namespace Go.Proofs.Ytkmjcdlhlhefdaa.P
open Go.RowKit Go.Proofs.YtkmjcdlhlhefdaaW.PrintWords Go.Proofs.YtkmjcdlhlhefdaaW.PrintLast Go.Proofs.YtkmjcdlhlhefdaaW.PrintMore
attribute [local go_sem] max2_int min2_int max_two min_two max_three min_three max_four min_four   -- for this text's walks alone
set_option linter.unusedVariables false
set_option linter.unusedSimpArgs false

theorem bw_32 {n : Nat} {v v' : World} (h : Below n v v' := by repeat (first | (with_reducible first | exact HB.out | apply bwA | apply pbN | apply bwD) | exact HB.out)) : Below n v v' := h

theorem ln_32 {P : Prop} (h : P := by (try simp only [List.map_toArray, List.map_cons, List.map_nil]); first | done | rfl | (simp only [List.length_drop, List.length_take]; rfl)) : P := h
open Option renaming bind_eq_some_iff → be

set_option maxHeartbeats 8000000 in
set_option maxRecDepth 100000 in
theorem laws_FnGauss.calls (k : Nat) (A0 : Option Addr) (c0 : Nat) (l0 : List Int) (r : Bool) (w : World) (hr0 : Kd.C (Kd.int .u8) w A0 l0.length l0) (hc0 : l0.length ≤ c0) (h : laws_FnGauss.f k l0 = some r) :
  Calls Try.prog 3 #[.slice A0 l0.length c0] w fun e w' => e = .returned (.bool r) ∧ Below w.heap.size w w' := by
 have HR0 := Az.mk hr0
 have HC0 := Az.mk hc0
 clear hr0 hc0
 have HB := Az.mk (Below.refl w.heap.size w)
 have H : ((laws_big.f l0).bind fun t606 => (if t606 = true then (some true) else ((spec_DrawCurveGenus.f k l0).bind fun t607 => ((impl_CurveGenus.f k t607).bind fun t610 => ((spec_DrawAreLinked.f k l0).bind fun bt611 => ((spec_DrawCrossingMap.f k l0).bind fun bt616 => ((impl_CrossingMap.f k bt616.1 bt616.2).bind fun bt620 => ((spec_CrossingMap.f k bt616.1 bt616.2).bind fun bt624 => ((spec_DrawDropCrossing.f k l0).bind fun bt628 => ((impl_DropCrossing.f k bt628.1 bt628.2).bind fun bt632 => ((spec_DropCrossing.f k bt628.1 bt628.2).bind fun bt636 => ((impl_LinkRow.f k t607).bind fun t640 => ((impl_DropLoops.f k t607).bind fun t643 => ((spec_CurveGenus.f k t607).bind fun t646 => (if t610 = t646 then ((impl_AreLinked.f k bt611.1 bt611.2.1 bt611.2.2).bind fun t647 => ((spec_AreLinked.f k bt611.1 bt611.2.1 bt611.2.2).bind fun t648 => (if (t647 != t648) = true then (none) else (if (bt620.2 != bt624.2) = true then (none) else ((laws_sameInts.f k bt620.1 bt624.1).bind fun t649 => (if t649 = true then (if (bt632.2 != bt636.2) = true then (none) else ((laws_sameInts.f k bt632.1 bt636.1).bind fun t650 => (if t650 = true then ((spec_LinkRow.f k t607).bind fun t651 => ((laws_sameInts.f k t640 t651).bind fun t654 => (if t654 = true then ((spec_DropLoops.f k t607).bind fun t655 => ((laws_sameInts.f k t643 t655).bind fun t658 => (if t658 = true then ((impl_IsCrossingWord.f k t607).bind fun t659 => ((spec_IsCrossingWord.f k t607).bind fun t660 => (if (t659 != t660) = true then (none) else ((impl_IsPlanarWord.f k t607).bind fun t661 => (if (t661 != (t610 == 0)) = true then (none) else ((impl_AreLinked.f k bt611.1 bt611.2.1 bt611.2.2).bind fun t662 => ((impl_AreLinked.f k bt611.1 bt611.2.2 bt611.2.1).bind fun t663 => (if (t662 != t663) = true then (none) else (if bt620.2 = true then ((spec_IsMap.f k bt620.1).bind fun t664 => (if t664 = true then ((spec_CyclesOf.f k bt620.1).bind fun t665 => (if (wrap64 (2 * (t665.length : Int))) = (bt616.1.length : Int) then ((spec_MapParts.f k bt620.1).bind fun t668 => (laws_FnGauss.j0 k t607 t610 bt628.1 bt632.1 bt632.2 t640 t643 (t668 != 1))) else (none))) else (none))) else (laws_FnGauss.j0 k t607 t610 bt628.1 bt632.1 bt632.2 t640 t643 false)))))))))) else (none)))) else (none)))) else (none)))) else (none))))))) else (none)))))))))))))))) = some r := h
 clear h
 replace H := bez H
 obtain ⟨t606, A2, H⟩ := H
 try dsimp only at H
 by_cases c3 : t606 = true
 ·subst c3
  rw [if_pos rfl] at H
  obtain rfl := Option.some.inj H
  go_enter Try.func3, Try.ntmps3
  go_wp2_with (first | ((with_reducible refine gtC (f := 4) rfl ?_); refine clz Try.func4 (some 24) #[.slice A0 l0.length c0] ?_; (with_reducible refine (laws_big.calls _ _ l0 true _ ?side1 ?side2 A2.out).mono ?_); (case side1 => exact kC HR0.out); (case side2 => exact HC0.out); rintro e w' ⟨rfl, ⟨nd, rfl⟩⟩; refine ⟨_, rfl, ?_⟩))
  go_ret
  exact ⟨rq1, bw_32⟩
 replace c3 := Bool.eq_false_iff.mpr c3
 subst c3
 rw [if_neg ff] at H
 replace H := bez H
 obtain ⟨t607, A4, H⟩ := H
 try dsimp only at H
 replace H := bez H
 obtain ⟨t610, A5, H⟩ := H
 try dsimp only at H
 replace H := bez H
 obtain ⟨⟨t611, t612, t613⟩, A6, H⟩ := H
 try dsimp only at H
 replace H := bez H
 obtain ⟨⟨t616, t617⟩, A7, H⟩ := H
 try dsimp only at H
 replace H := bez H
 obtain ⟨⟨t620, t621⟩, A8, H⟩ := H
 try dsimp only at H
 replace H := bez H
 obtain ⟨⟨t624, t625⟩, A9, H⟩ := H
 try dsimp only at H
 replace H := bez H
 obtain ⟨⟨t628, t629⟩, A10, H⟩ := H
 try dsimp only at H
 replace H := bez H
 obtain ⟨⟨t632, t633⟩, A11, H⟩ := H
 try dsimp only at H
 replace H := bez H
 obtain ⟨⟨t636, t637⟩, A12, H⟩ := H
 try dsimp only at H
 replace H := bez H
 obtain ⟨t640, A13, H⟩ := H
 try dsimp only at H
 replace H := bez H
 obtain ⟨t643, A14, H⟩ := H
 try dsimp only at H
 replace H := bez H
 obtain ⟨t646, A15, H⟩ := H
 try dsimp only at H
 by_cases c16 : t610 = t646
 rotate_left
 ·rw [if_neg c16] at H
  exact absurd H (by simp)
 rw [if_pos c16] at H
 have c16b0 : (t610 == t646) = true := beq_iff_eq.mpr c16
 have c16b1 : (t610 != t646) = false := bne_eq_false_iff_eq.mpr c16
 clear c16
 replace H := bez H
 obtain ⟨t647, A17, H⟩ := H
 try dsimp only at H
 replace H := bez H
 obtain ⟨t648, A18, H⟩ := H
 try dsimp only at H
 by_cases c19 : (t647 != t648) = true
 ·rw [if_pos c19] at H
  exact absurd H (by simp)
 rw [if_neg c19] at H
 have c19b0 : (t647 != t648) = false := by simpa using c19
 (try (have c19b1 : decide (t647 = t648) = true := by simpa using c19))
 (try (have c19b2 : (t647 == t648) = true := by simpa using c19))
 clear c19
 by_cases c20 : (t621 != t625) = true
 ·rw [if_pos c20] at H
  exact absurd H (by simp)
 rw [if_neg c20] at H
 have c20b0 : (t621 != t625) = false := by simpa using c20
 (try (have c20b1 : decide (t621 = t625) = true := by simpa using c20))
 (try (have c20b2 : (t621 == t625) = true := by simpa using c20))
 clear c20
 replace H := bez H
 obtain ⟨t649, A21, H⟩ := H
 try dsimp only at H
 by_cases c22 : t649 = true
 rotate_left
 ·replace c22 := Bool.eq_false_iff.mpr c22
  subst c22
  rw [if_neg ff] at H
  exact absurd H (by simp)
 subst c22
 rw [if_pos rfl] at H
 by_cases c23 : (t633 != t637) = true
 ·rw [if_pos c23] at H
  exact absurd H (by simp)
 rw [if_neg c23] at H
 have c23b0 : (t633 != t637) = false := by simpa using c23
 (try (have c23b1 : decide (t633 = t637) = true := by simpa using c23))
 (try (have c23b2 : (t633 == t637) = true := by simpa using c23))
 clear c23
 replace H := bez H
 obtain ⟨t650, A24, H⟩ := H
 try dsimp only at H
 by_cases c25 : t650 = true
 rotate_left
 ·replace c25 := Bool.eq_false_iff.mpr c25
  subst c25
  rw [if_neg ff] at H
  exact absurd H (by simp)
 subst c25
 rw [if_pos rfl] at H
 replace H := bez H
 obtain ⟨t651, A26, H⟩ := H
 try dsimp only at H
 replace H := bez H
 obtain ⟨t654, A27, H⟩ := H
 try dsimp only at H
 by_cases c28 : t654 = true
 rotate_left
 ·replace c28 := Bool.eq_false_iff.mpr c28
  subst c28
  rw [if_neg ff] at H
  exact absurd H (by simp)
 subst c28
 rw [if_pos rfl] at H
 replace H := bez H
 obtain ⟨t655, A29, H⟩ := H
 try dsimp only at H
 replace H := bez H
 obtain ⟨t658, A30, H⟩ := H
 try dsimp only at H
 by_cases c31 : t658 = true
 rotate_left
 ·replace c31 := Bool.eq_false_iff.mpr c31
  subst c31
  rw [if_neg ff] at H
  exact absurd H (by simp)
 subst c31
 rw [if_pos rfl] at H
 replace H := bez H
 obtain ⟨t659, A32, H⟩ := H
 try dsimp only at H
 replace H := bez H
 obtain ⟨t660, A33, H⟩ := H
 try dsimp only at H
 by_cases c34 : (t659 != t660) = true
 ·rw [if_pos c34] at H
  exact absurd H (by simp)
 rw [if_neg c34] at H
 have c34b0 : (t659 != t660) = false := by simpa using c34
 (try (have c34b1 : decide (t659 = t660) = true := by simpa using c34))
 (try (have c34b2 : (t659 == t660) = true := by simpa using c34))
 clear c34
 replace H := bez H
 obtain ⟨t661, A35, H⟩ := H
 try dsimp only at H
 by_cases c36 : (t661 != (t610 == 0)) = true
 ·rw [if_pos c36] at H
  exact absurd H (by simp)
 rw [if_neg c36] at H
 have c36b0 : (t661 != (t610 == 0)) = false := by simpa using c36
 (try (have c36b1 : decide (t661 = (t610 == 0)) = true := by simpa using c36))
 (try (have c36b2 : (t661 == (t610 == 0)) = true := by simpa using c36))
 clear c36
 have HC37 := Az.mk H
 clear H
 go_enter Try.func3, Try.ntmps3
 go_upto_region 14 with (first | ((with_reducible refine gtC (f := 4) rfl ?_); refine clz Try.func4 (some 24) #[.slice A0 l0.length c0] ?_; (with_reducible refine (laws_big.calls _ _ l0 false _ ?side1 ?side2 A2.out).mono ?_); (case side1 => exact kC HR0.out); (case side2 => exact HC0.out); rintro e w' ⟨rfl, ⟨nd, rfl⟩⟩; refine ⟨_, rfl, ?_⟩) | ((with_reducible refine gtC (f := 5) rfl ?_); refine clz Try.func5 (some 26) #[.slice A0 l0.length c0] ?_; (with_reducible refine (spec_DrawCurveGenus.calls k _ _ l0 t607 _ ?side1 ?side2 A4.out).mono ?_); (case side1 => exact kC HR0.out); (case side2 => exact HC0.out); rintro e w38 ⟨v608, rfl, ho0, hb⟩; refine ⟨_, rfl, ?_⟩; have HO609 := Az.mk (Kd.R_lower ho0 (bwZ bw_32)); replace HB := Az.mk (bwT bw_32 hb); (try clear hb); (try clear ho0); obtain ⟨Ao39, co39, eo39⟩ := Kd.R_slice HO609.out; subst eo39) | ((with_reducible refine gtC (f := 6) rfl ?_); refine clz Try.func6 (some 28) #[.slice Ao39 t607.length co39] ?_; (with_reducible refine (impl_CurveGenus.calls k _ _ t607 t610 _ ?side1 ?side2 A5.out).mono ?_); (case side1 => exact kC (Kd.R_reads' HO609.out).2.2); (case side2 => exact (Kd.R_reads' HO609.out).2.1); rintro e w40 ⟨rfl, hb⟩; refine ⟨_, rfl, ?_⟩; replace HO609 := Az.mk (Kd.R_below (kR HO609.out) hb); replace HB := Az.mk (bwT bw_32 hb); (try clear hb)) | ((with_reducible refine gtC (f := 7) rfl ?_); refine clz Try.func7 (some 31) #[.slice A0 l0.length c0] ?_; (with_reducible refine (spec_DrawAreLinked.calls k _ _ l0 t611 t612 t613 _ ?side1 ?side2 A6.out).mono ?_); (case side1 => exact kC (Kd.C_below HR0.out HB.out)); (case side2 => exact HC0.out); rintro e w41 ⟨v614, rfl, ho0, hb⟩; refine ⟨_, rfl, ?_⟩; have HO615 := Az.mk (Kd.R_lower (Kd.R_new' ho0 (Kd.R_lt (kR HO609.out))) (bwZ bw_32)); replace HO609 := Az.mk (Kd.R_elder' (kR HO609.out) (Kd.R_base ho0) hb); replace HB := Az.mk (bwT bw_32 hb); (try clear hb); (try clear ho0)) | ((with_reducible refine gtC (f := 8) rfl ?_); refine clz Try.func8 (some 37) #[.slice A0 l0.length c0] ?_; (with_reducible refine (spec_DrawCrossingMap.calls k _ _ l0 t616 t617 _ ?side1 ?side2 A7.out).mono ?_); (case side1 => exact kC (Kd.C_below HR0.out HB.out)); (case side2 => exact HC0.out); rintro e w42 ⟨v618, rfl, ho0, hb⟩; refine ⟨_, rfl, ?_⟩; have HO619 := Az.mk (Kd.R_lower (Kd.R_new' (Kd.R_new' ho0 (Kd.R_lt (kR HO609.out))) (Kd.R_lt (kR HO615.out))) (bwZ bw_32)); replace HO609 := Az.mk (Kd.R_elder' (kR HO609.out) (Kd.R_base ho0) hb); replace HO615 := Az.mk (Kd.R_elder' (kR HO615.out) (Kd.R_base ho0) hb); replace HB := Az.mk (bwT bw_32 hb); (try clear hb); (try clear ho0); obtain ⟨Ao43, co43, eo43⟩ := Kd.R_slice HO619.out; subst eo43) | ((with_reducible refine gtC (f := 9) rfl ?_); refine clz Try.func9 (some 43) #[.slice Ao43 t616.length co43, .int .i64 t617] ?_; (with_reducible refine (impl_CrossingMap.calls k _ _ t616 t617 t620 t621 _ ?side1 ?side2 A8.out).mono ?_); (case side1 => exact kC (Kd.R_reads' HO619.out).2.2); (case side2 => exact (Kd.R_reads' HO619.out).2.1); rintro e w44 ⟨v622, rfl, ho0, hb⟩; refine ⟨_, rfl, ?_⟩; have HO623 := Az.mk (Kd.R_lower (Kd.R_new' (Kd.R_new' (Kd.R_new' ho0 (Kd.R_lt (kR HO609.out))) (Kd.R_lt (kR HO615.out))) (Kd.R_lt (kR HO619.out))) (bwZ bw_32)); replace HO609 := Az.mk (Kd.R_elder' (kR HO609.out) (Kd.R_base ho0) hb); replace HO615 := Az.mk (Kd.R_elder' (kR HO615.out) (Kd.R_base ho0) hb); replace HO619 := Az.mk (Kd.R_elder' (kR HO619.out) (Kd.R_base ho0) hb); replace HB := Az.mk (bwT bw_32 hb); (try clear hb); (try clear ho0)) | ((with_reducible refine gtC (f := 10) rfl ?_); refine clz Try.func10 (some 49) #[.slice Ao43 t616.length co43, .int .i64 t617] ?_; (with_reducible refine (spec_CrossingMap.calls k _ _ t616 t617 t624 t625 _ ?side1 ?side2 A9.out).mono ?_); (case side1 => exact kC (Kd.R_reads' HO619.out).2.2); (case side2 => exact (Kd.R_reads' HO619.out).2.1); rintro e w45 ⟨v626, rfl, ho0, hb⟩; refine ⟨_, rfl, ?_⟩; have HO627 := Az.mk (Kd.R_lower (Kd.R_new' (Kd.R_new' (Kd.R_new' (Kd.R_new' ho0 (Kd.R_lt (kR HO609.out))) (Kd.R_lt (kR HO615.out))) (Kd.R_lt (kR HO619.out))) (Kd.R_lt (kR HO623.out))) (bwZ bw_32)); replace HO609 := Az.mk (Kd.R_elder' (kR HO609.out) (Kd.R_base ho0) hb); replace HO615 := Az.mk (Kd.R_elder' (kR HO615.out) (Kd.R_base ho0) hb); replace HO619 := Az.mk (Kd.R_elder' (kR HO619.out) (Kd.R_base ho0) hb); replace HO623 := Az.mk (Kd.R_elder' (kR HO623.out) (Kd.R_base ho0) hb); replace HB := Az.mk (bwT bw_32 hb); (try clear hb); (try clear ho0)) | ((with_reducible refine gtC (f := 11) rfl ?_); refine clz Try.func11 (some 54) #[.slice A0 l0.length c0] ?_; (with_reducible refine (spec_DrawDropCrossing.calls k _ _ l0 t628 t629 _ ?side1 ?side2 A10.out).mono ?_); (case side1 => exact kC (Kd.C_below HR0.out HB.out)); (case side2 => exact HC0.out); rintro e w46 ⟨v630, rfl, ho0, hb⟩; refine ⟨_, rfl, ?_⟩; have HO631 := Az.mk (Kd.R_lower (Kd.R_new' (Kd.R_new' (Kd.R_new' (Kd.R_new' (Kd.R_new' ho0 (Kd.R_lt (kR HO609.out))) (Kd.R_lt (kR HO615.out))) (Kd.R_lt (kR HO619.out))) (Kd.R_lt (kR HO623.out))) (Kd.R_lt (kR HO627.out))) (bwZ bw_32)); replace HO609 := Az.mk (Kd.R_elder' (kR HO609.out) (Kd.R_base ho0) hb); replace HO615 := Az.mk (Kd.R_elder' (kR HO615.out) (Kd.R_base ho0) hb); replace HO619 := Az.mk (Kd.R_elder' (kR HO619.out) (Kd.R_base ho0) hb); replace HO623 := Az.mk (Kd.R_elder' (kR HO623.out) (Kd.R_base ho0) hb); replace HO627 := Az.mk (Kd.R_elder' (kR HO627.out) (Kd.R_base ho0) hb); replace HB := Az.mk (bwT bw_32 hb); (try clear hb); (try clear ho0); obtain ⟨Ao47, co47, eo47⟩ := Kd.R_slice HO631.out; subst eo47) | ((with_reducible refine gtC (f := 12) rfl ?_); refine clz Try.func12 (some 60) #[.slice Ao47 t628.length co47, .int .i64 t629] ?_; (with_reducible refine (impl_DropCrossing.calls k _ _ t628 t629 t632 t633 _ ?side1 ?side2 A11.out).mono ?_); (case side1 => exact kC (Kd.R_reads' HO631.out).2.2); (case side2 => exact (Kd.R_reads' HO631.out).2.1); rintro e w48 ⟨v634, rfl, ho0, hb⟩; refine ⟨_, rfl, ?_⟩; have HO635 := Az.mk (Kd.R_lower (Kd.R_new' (Kd.R_new' (Kd.R_new' (Kd.R_new' (Kd.R_new' (Kd.R_new' ho0 (Kd.R_lt (kR HO609.out))) (Kd.R_lt (kR HO615.out))) (Kd.R_lt (kR HO619.out))) (Kd.R_lt (kR HO623.out))) (Kd.R_lt (kR HO627.out))) (Kd.R_lt (kR HO631.out))) (bwZ bw_32)); replace HO609 := Az.mk (Kd.R_elder' (kR HO609.out) (Kd.R_base ho0) hb); replace HO615 := Az.mk (Kd.R_elder' (kR HO615.out) (Kd.R_base ho0) hb); replace HO619 := Az.mk (Kd.R_elder' (kR HO619.out) (Kd.R_base ho0) hb); replace HO623 := Az.mk (Kd.R_elder' (kR HO623.out) (Kd.R_base ho0) hb); replace HO627 := Az.mk (Kd.R_elder' (kR HO627.out) (Kd.R_base ho0) hb); replace HO631 := Az.mk (Kd.R_elder' (kR HO631.out) (Kd.R_base ho0) hb); replace HB := Az.mk (bwT bw_32 hb); (try clear hb); (try clear ho0)) | ((with_reducible refine gtC (f := 13) rfl ?_); refine clz Try.func13 (some 66) #[.slice Ao47 t628.length co47, .int .i64 t629] ?_; (with_reducible refine (spec_DropCrossing.calls k _ _ t628 t629 t636 t637 _ ?side1 ?side2 A12.out).mono ?_); (case side1 => exact kC (Kd.R_reads' HO631.out).2.2); (case side2 => exact (Kd.R_reads' HO631.out).2.1); rintro e w49 ⟨v638, rfl, ho0, hb⟩; refine ⟨_, rfl, ?_⟩; have HO639 := Az.mk (Kd.R_lower (Kd.R_new' (Kd.R_new' (Kd.R_new' (Kd.R_new' (Kd.R_new' (Kd.R_new' (Kd.R_new' ho0 (Kd.R_lt (kR HO609.out))) (Kd.R_lt (kR HO615.out))) (Kd.R_lt (kR HO619.out))) (Kd.R_lt (kR HO623.out))) (Kd.R_lt (kR HO627.out))) (Kd.R_lt (kR HO631.out))) (Kd.R_lt (kR HO635.out))) (bwZ bw_32)); replace HO609 := Az.mk (Kd.R_elder' (kR HO609.out) (Kd.R_base ho0) hb); replace HO615 := Az.mk (Kd.R_elder' (kR HO615.out) (Kd.R_base ho0) hb); replace HO619 := Az.mk (Kd.R_elder' (kR HO619.out) (Kd.R_base ho0) hb); replace HO623 := Az.mk (Kd.R_elder' (kR HO623.out) (Kd.R_base ho0) hb); replace HO627 := Az.mk (Kd.R_elder' (kR HO627.out) (Kd.R_base ho0) hb); replace HO631 := Az.mk (Kd.R_elder' (kR HO631.out) (Kd.R_base ho0) hb); replace HO635 := Az.mk (Kd.R_elder' (kR HO635.out) (Kd.R_base ho0) hb); replace HB := Az.mk (bwT bw_32 hb); (try clear hb); (try clear ho0)) | ((with_reducible refine gtC (f := 14) rfl ?_); refine clz Try.func14 (some 70) #[.slice Ao39 t607.length co39] ?_; (with_reducible refine (impl_LinkRow.calls k _ _ t607 t640 _ ?side1 ?side2 A13.out).mono ?_); (case side1 => exact kC (Kd.R_reads' HO609.out).2.2); (case side2 => exact (Kd.R_reads' HO609.out).2.1); rintro e w50 ⟨v641, rfl, ho0, hb⟩; refine ⟨_, rfl, ?_⟩; have HO642 := Az.mk (Kd.R_lower (Kd.R_new' (Kd.R_new' (Kd.R_new' (Kd.R_new' (Kd.R_new' (Kd.R_new' (Kd.R_new' (Kd.R_new' ho0 (Kd.R_lt (kR HO609.out))) (Kd.R_lt (kR HO615.out))) (Kd.R_lt (kR HO619.out))) (Kd.R_lt (kR HO623.out))) (Kd.R_lt (kR HO627.out))) (Kd.R_lt (kR HO631.out))) (Kd.R_lt (kR HO635.out))) (Kd.R_lt (kR HO639.out))) (bwZ bw_32)); replace HO609 := Az.mk (Kd.R_elder' (kR HO609.out) (Kd.R_base ho0) hb); replace HO615 := Az.mk (Kd.R_elder' (kR HO615.out) (Kd.R_base ho0) hb); replace HO619 := Az.mk (Kd.R_elder' (kR HO619.out) (Kd.R_base ho0) hb); replace HO623 := Az.mk (Kd.R_elder' (kR HO623.out) (Kd.R_base ho0) hb); replace HO627 := Az.mk (Kd.R_elder' (kR HO627.out) (Kd.R_base ho0) hb); replace HO631 := Az.mk (Kd.R_elder' (kR HO631.out) (Kd.R_base ho0) hb); replace HO635 := Az.mk (Kd.R_elder' (kR HO635.out) (Kd.R_base ho0) hb); replace HO639 := Az.mk (Kd.R_elder' (kR HO639.out) (Kd.R_base ho0) hb); replace HB := Az.mk (bwT bw_32 hb); (try clear hb); (try clear ho0)) | ((with_reducible refine gtC (f := 15) rfl ?_); refine clz Try.func15 (some 72) #[.slice Ao39 t607.length co39] ?_; (with_reducible refine (impl_DropLoops.calls k _ _ t607 t643 _ ?side1 ?side2 A14.out).mono ?_); (case side1 => exact kC (Kd.R_reads' HO609.out).2.2); (case side2 => exact (Kd.R_reads' HO609.out).2.1); rintro e w51 ⟨v644, rfl, ho0, hb⟩; refine ⟨_, rfl, ?_⟩; have HO645 := Az.mk (Kd.R_lower (Kd.R_new' (Kd.R_new' (Kd.R_new' (Kd.R_new' (Kd.R_new' (Kd.R_new' (Kd.R_new' (Kd.R_new' (Kd.R_new' ho0 (Kd.R_lt (kR HO609.out))) (Kd.R_lt (kR HO615.out))) (Kd.R_lt (kR HO619.out))) (Kd.R_lt (kR HO623.out))) (Kd.R_lt (kR HO627.out))) (Kd.R_lt (kR HO631.out))) (Kd.R_lt (kR HO635.out))) (Kd.R_lt (kR HO639.out))) (Kd.R_lt (kR HO642.out))) (bwZ bw_32)); replace HO609 := Az.mk (Kd.R_elder' (kR HO609.out) (Kd.R_base ho0) hb); replace HO615 := Az.mk (Kd.R_elder' (kR HO615.out) (Kd.R_base ho0) hb); replace HO619 := Az.mk (Kd.R_elder' (kR HO619.out) (Kd.R_base ho0) hb); replace HO623 := Az.mk (Kd.R_elder' (kR HO623.out) (Kd.R_base ho0) hb); replace HO627 := Az.mk (Kd.R_elder' (kR HO627.out) (Kd.R_base ho0) hb); replace HO631 := Az.mk (Kd.R_elder' (kR HO631.out) (Kd.R_base ho0) hb); replace HO635 := Az.mk (Kd.R_elder' (kR HO635.out) (Kd.R_base ho0) hb); replace HO639 := Az.mk (Kd.R_elder' (kR HO639.out) (Kd.R_base ho0) hb); replace HO642 := Az.mk (Kd.R_elder' (kR HO642.out) (Kd.R_base ho0) hb); replace HB := Az.mk (bwT bw_32 hb); (try clear hb); (try clear ho0)))
 (try simp only [List.append_eq, List.cons_append, List.nil_append])
 go_upto_region 16 with (first | ((with_reducible refine gtC (f := 16) rfl ?_); refine clz Try.func16 (some 75) #[.slice Ao39 t607.length co39] ?_; (with_reducible refine (spec_CurveGenus.calls k _ _ t607 t646 _ ?side1 ?side2 A15.out).mono ?_); (case side1 => exact kC (Kd.R_reads' HO609.out).2.2); (case side2 => exact (Kd.R_reads' HO609.out).2.1); rintro e w52 ⟨rfl, hb⟩; refine ⟨_, rfl, ?_⟩; replace HO609 := Az.mk (Kd.R_below (kR HO609.out) hb); replace HO615 := Az.mk (Kd.R_below (kR HO615.out) hb); replace HO619 := Az.mk (Kd.R_below (kR HO619.out) hb); replace HO623 := Az.mk (Kd.R_below (kR HO623.out) hb); replace HO627 := Az.mk (Kd.R_below (kR HO627.out) hb); replace HO631 := Az.mk (Kd.R_below (kR HO631.out) hb); replace HO635 := Az.mk (Kd.R_below (kR HO635.out) hb); replace HO639 := Az.mk (Kd.R_below (kR HO639.out) hb); replace HO642 := Az.mk (Kd.R_below (kR HO642.out) hb); replace HO645 := Az.mk (Kd.R_below (kR HO645.out) hb); replace HB := Az.mk (bwT bw_32 hb); (try clear hb); obtain ⟨Ao53, co53, eo53⟩ := Kd.R_slice HO615.out; subst eo53) | (go_at_call 17; (with_reducible refine (impl_AreLinked.calls k _ _ t611 t612 t613 t647 _ ?side1 ?side2 A17.out).mono ?_); (case side1 => exact kC (Kd.R_reads' HO615.out).2.2); (case side2 => exact (Kd.R_reads' HO615.out).2.1); rintro e w54 ⟨rfl, hb⟩; replace HO609 := Az.mk (Kd.R_below (kR HO609.out) hb); replace HO615 := Az.mk (Kd.R_below (kR HO615.out) hb); replace HO619 := Az.mk (Kd.R_below (kR HO619.out) hb); replace HO623 := Az.mk (Kd.R_below (kR HO623.out) hb); replace HO627 := Az.mk (Kd.R_below (kR HO627.out) hb); replace HO631 := Az.mk (Kd.R_below (kR HO631.out) hb); replace HO635 := Az.mk (Kd.R_below (kR HO635.out) hb); replace HO639 := Az.mk (Kd.R_below (kR HO639.out) hb); replace HO642 := Az.mk (Kd.R_below (kR HO642.out) hb); replace HO645 := Az.mk (Kd.R_below (kR HO645.out) hb); replace HB := Az.mk (bwT bw_32 hb); (try clear hb)) | (go_at_call 18; (with_reducible refine (spec_AreLinked.calls k _ _ t611 t612 t613 t648 _ ?side1 ?side2 A18.out).mono ?_); (case side1 => exact kC (Kd.R_reads' HO615.out).2.2); (case side2 => exact (Kd.R_reads' HO615.out).2.1); rintro e w' ⟨rfl, ⟨nd, rfl⟩⟩; obtain ⟨Ao55, co55, eo55⟩ := Kd.R_slice HO623.out; subst eo55; obtain ⟨Ao56, co56, eo56⟩ := Kd.R_slice HO627.out; subst eo56) | (go_at_call 19; (with_reducible refine (laws_sameInts.calls k _ _ t620 _ _ t624 true _ ?side1 ?side2 ?side3 ?side4 A21.out).mono ?_); (case side1 => exact kC (Kd.R_reads' HO623.out).2.2); (case side2 => exact (Kd.R_reads' HO623.out).2.1); (case side3 => exact kC (Kd.R_reads' HO627.out).2.2); (case side4 => exact (Kd.R_reads' HO627.out).2.1); rintro e w' ⟨rfl, ⟨nd, rfl⟩⟩; obtain ⟨Ao57, co57, eo57⟩ := Kd.R_slice HO635.out; subst eo57; obtain ⟨Ao58, co58, eo58⟩ := Kd.R_slice HO639.out; subst eo58) | (go_at_call 19; (with_reducible refine (laws_sameInts.calls k _ _ t632 _ _ t636 true _ ?side1 ?side2 ?side3 ?side4 A24.out).mono ?_); (case side1 => exact kC (Kd.R_reads' HO635.out).2.2); (case side2 => exact (Kd.R_reads' HO635.out).2.1); (case side3 => exact kC (Kd.R_reads' HO639.out).2.2); (case side4 => exact (Kd.R_reads' HO639.out).2.1); rintro e w' ⟨rfl, ⟨nd, rfl⟩⟩) | (go_at_call 20; (with_reducible refine (spec_LinkRow.calls k _ _ t607 t651 _ ?side1 ?side2 A26.out).mono ?_); (case side1 => exact kC (Kd.R_reads' HO609.out).2.2); (case side2 => exact (Kd.R_reads' HO609.out).2.1); rintro e w59 ⟨v652, rfl, ho0, hb⟩; have HO653 := Az.mk (Kd.R_lower (Kd.R_new' (Kd.R_new' (Kd.R_new' (Kd.R_new' (Kd.R_new' (Kd.R_new' (Kd.R_new' (Kd.R_new' (Kd.R_new' (Kd.R_new' ho0 (Kd.R_lt (kR HO609.out))) (Kd.R_lt (kR HO615.out))) (Kd.R_lt (kR HO619.out))) (Kd.R_lt (kR HO623.out))) (Kd.R_lt (kR HO627.out))) (Kd.R_lt (kR HO631.out))) (Kd.R_lt (kR HO635.out))) (Kd.R_lt (kR HO639.out))) (Kd.R_lt (kR HO642.out))) (Kd.R_lt (kR HO645.out))) (bwZ bw_32)); replace HO609 := Az.mk (Kd.R_elder' (kR HO609.out) (Kd.R_base ho0) hb); replace HO615 := Az.mk (Kd.R_elder' (kR HO615.out) (Kd.R_base ho0) hb); replace HO619 := Az.mk (Kd.R_elder' (kR HO619.out) (Kd.R_base ho0) hb); replace HO623 := Az.mk (Kd.R_elder' (kR HO623.out) (Kd.R_base ho0) hb); replace HO627 := Az.mk (Kd.R_elder' (kR HO627.out) (Kd.R_base ho0) hb); replace HO631 := Az.mk (Kd.R_elder' (kR HO631.out) (Kd.R_base ho0) hb); replace HO635 := Az.mk (Kd.R_elder' (kR HO635.out) (Kd.R_base ho0) hb); replace HO639 := Az.mk (Kd.R_elder' (kR HO639.out) (Kd.R_base ho0) hb); replace HO642 := Az.mk (Kd.R_elder' (kR HO642.out) (Kd.R_base ho0) hb); replace HO645 := Az.mk (Kd.R_elder' (kR HO645.out) (Kd.R_base ho0) hb); replace HB := Az.mk (bwT bw_32 hb); (try clear hb); (try clear ho0); obtain ⟨Ao60, co60, eo60⟩ := Kd.R_slice HO642.out; subst eo60; obtain ⟨Ao61, co61, eo61⟩ := Kd.R_slice HO653.out; subst eo61) | (go_at_call 19; (with_reducible refine (laws_sameInts.calls k _ _ t640 _ _ t651 true _ ?side1 ?side2 ?side3 ?side4 A27.out).mono ?_); (case side1 => exact kC (Kd.R_reads' HO642.out).2.2); (case side2 => exact (Kd.R_reads' HO642.out).2.1); (case side3 => exact kC (Kd.R_reads' HO653.out).2.2); (case side4 => exact (Kd.R_reads' HO653.out).2.1); rintro e w' ⟨rfl, ⟨nd, rfl⟩⟩) | (go_at_call 21; (with_reducible refine (spec_DropLoops.calls k _ _ t607 t655 _ ?side1 ?side2 A29.out).mono ?_); (case side1 => exact kC (Kd.R_reads' HO609.out).2.2); (case side2 => exact (Kd.R_reads' HO609.out).2.1); rintro e w62 ⟨v656, rfl, ho0, hb⟩; have HO657 := Az.mk (Kd.R_lower (Kd.R_new' (Kd.R_new' (Kd.R_new' (Kd.R_new' (Kd.R_new' (Kd.R_new' (Kd.R_new' (Kd.R_new' (Kd.R_new' (Kd.R_new' (Kd.R_new' ho0 (Kd.R_lt (kR HO609.out))) (Kd.R_lt (kR HO615.out))) (Kd.R_lt (kR HO619.out))) (Kd.R_lt (kR HO623.out))) (Kd.R_lt (kR HO627.out))) (Kd.R_lt (kR HO631.out))) (Kd.R_lt (kR HO635.out))) (Kd.R_lt (kR HO639.out))) (Kd.R_lt (kR HO642.out))) (Kd.R_lt (kR HO645.out))) (Kd.R_lt (kR HO653.out))) (bwZ bw_32)); replace HO609 := Az.mk (Kd.R_elder' (kR HO609.out) (Kd.R_base ho0) hb); replace HO615 := Az.mk (Kd.R_elder' (kR HO615.out) (Kd.R_base ho0) hb); replace HO619 := Az.mk (Kd.R_elder' (kR HO619.out) (Kd.R_base ho0) hb); replace HO623 := Az.mk (Kd.R_elder' (kR HO623.out) (Kd.R_base ho0) hb); replace HO627 := Az.mk (Kd.R_elder' (kR HO627.out) (Kd.R_base ho0) hb); replace HO631 := Az.mk (Kd.R_elder' (kR HO631.out) (Kd.R_base ho0) hb); replace HO635 := Az.mk (Kd.R_elder' (kR HO635.out) (Kd.R_base ho0) hb); replace HO639 := Az.mk (Kd.R_elder' (kR HO639.out) (Kd.R_base ho0) hb); replace HO642 := Az.mk (Kd.R_elder' (kR HO642.out) (Kd.R_base ho0) hb); replace HO645 := Az.mk (Kd.R_elder' (kR HO645.out) (Kd.R_base ho0) hb); replace HO653 := Az.mk (Kd.R_elder' (kR HO653.out) (Kd.R_base ho0) hb); replace HB := Az.mk (bwT bw_32 hb); (try clear hb); (try clear ho0); obtain ⟨Ao63, co63, eo63⟩ := Kd.R_slice HO645.out; subst eo63; obtain ⟨Ao64, co64, eo64⟩ := Kd.R_slice HO657.out; subst eo64) | (go_at_call 19; (with_reducible refine (laws_sameInts.calls k _ _ t643 _ _ t655 true _ ?side1 ?side2 ?side3 ?side4 A30.out).mono ?_); (case side1 => exact kC (Kd.R_reads' HO645.out).2.2); (case side2 => exact (Kd.R_reads' HO645.out).2.1); (case side3 => exact kC (Kd.R_reads' HO657.out).2.2); (case side4 => exact (Kd.R_reads' HO657.out).2.1); rintro e w' ⟨rfl, ⟨nd, rfl⟩⟩) | (go_at_call 22; (with_reducible refine (impl_IsCrossingWord.calls k _ _ t607 t659 _ ?side1 ?side2 A32.out).mono ?_); (case side1 => exact kC (Kd.R_reads' HO609.out).2.2); (case side2 => exact (Kd.R_reads' HO609.out).2.1); rintro e w65 ⟨rfl, hb⟩; replace HO609 := Az.mk (Kd.R_below (kR HO609.out) hb); replace HO615 := Az.mk (Kd.R_below (kR HO615.out) hb); replace HO619 := Az.mk (Kd.R_below (kR HO619.out) hb); replace HO623 := Az.mk (Kd.R_below (kR HO623.out) hb); replace HO627 := Az.mk (Kd.R_below (kR HO627.out) hb); replace HO631 := Az.mk (Kd.R_below (kR HO631.out) hb); replace HO635 := Az.mk (Kd.R_below (kR HO635.out) hb); replace HO639 := Az.mk (Kd.R_below (kR HO639.out) hb); replace HO642 := Az.mk (Kd.R_below (kR HO642.out) hb); replace HO645 := Az.mk (Kd.R_below (kR HO645.out) hb); replace HO653 := Az.mk (Kd.R_below (kR HO653.out) hb); replace HO657 := Az.mk (Kd.R_below (kR HO657.out) hb); replace HB := Az.mk (bwT bw_32 hb); (try clear hb)) | (go_at_call 23; (with_reducible refine (spec_IsCrossingWord.calls k _ _ t607 t660 _ ?side1 ?side2 A33.out).mono ?_); (case side1 => exact kC (Kd.R_reads' HO609.out).2.2); (case side2 => exact (Kd.R_reads' HO609.out).2.1); rintro e w' ⟨rfl, ⟨nd, rfl⟩⟩) | (go_at_call 24; (with_reducible refine (impl_IsPlanarWord.calls k _ _ t607 t661 _ ?side1 ?side2 A35.out).mono ?_); (case side1 => exact kC (Kd.R_reads' HO609.out).2.2); (case side2 => exact (Kd.R_reads' HO609.out).2.1); rintro e w66 ⟨rfl, hb⟩; replace HO609 := Az.mk (Kd.R_below (kR HO609.out) hb); replace HO615 := Az.mk (Kd.R_below (kR HO615.out) hb); replace HO619 := Az.mk (Kd.R_below (kR HO619.out) hb); replace HO623 := Az.mk (Kd.R_below (kR HO623.out) hb); replace HO627 := Az.mk (Kd.R_below (kR HO627.out) hb); replace HO631 := Az.mk (Kd.R_below (kR HO631.out) hb); replace HO635 := Az.mk (Kd.R_below (kR HO635.out) hb); replace HO639 := Az.mk (Kd.R_below (kR HO639.out) hb); replace HO642 := Az.mk (Kd.R_below (kR HO642.out) hb); replace HO645 := Az.mk (Kd.R_below (kR HO645.out) hb); replace HO653 := Az.mk (Kd.R_below (kR HO653.out) hb); replace HO657 := Az.mk (Kd.R_below (kR HO657.out) hb); replace HB := Az.mk (bwT bw_32 hb); (try clear hb)))
 (try simp only [Act.put, List.setIfInBounds_toArray, List.set_cons_zero, List.set_cons_succ])
 go_cut [168] (fun v168 wc => ∃ (kq : Nat) (x168_36 : Bool), v168 = .bool x168_36 ∧ Az (laws_FnGauss.j0 kq t607 t610 t628 t632 t633 t640 t643 x168_36 = some r) ∧ Az (kq ≤ k) ∧ Az (Kd.R (Kd.int .i64) 3 wc w.heap.size (fun k_ => some k_ ≠ ((.slice Ao47 t628.length co47) : Value).ownBlock ∧ some k_ ≠ ((.slice Ao57 t632.length co57) : Value).ownBlock ∧ some k_ ≠ ((.slice Ao60 t640.length co60) : Value).ownBlock ∧ some k_ ≠ ((.slice Ao63 t643.length co63) : Value).ownBlock) (.slice Ao39 t607.length co39) t607) ∧ Az (Kd.R (Kd.int .i64) 3 wc w.heap.size (fun k_ => some k_ ≠ ((.slice Ao39 t607.length co39) : Value).ownBlock ∧ some k_ ≠ ((.slice Ao57 t632.length co57) : Value).ownBlock ∧ some k_ ≠ ((.slice Ao60 t640.length co60) : Value).ownBlock ∧ some k_ ≠ ((.slice Ao63 t643.length co63) : Value).ownBlock) (.slice Ao47 t628.length co47) t628) ∧ Az (Kd.R (Kd.int .i64) 3 wc w.heap.size (fun k_ => some k_ ≠ ((.slice Ao39 t607.length co39) : Value).ownBlock ∧ some k_ ≠ ((.slice Ao47 t628.length co47) : Value).ownBlock ∧ some k_ ≠ ((.slice Ao60 t640.length co60) : Value).ownBlock ∧ some k_ ≠ ((.slice Ao63 t643.length co63) : Value).ownBlock) (.slice Ao57 t632.length co57) t632) ∧ Az (Kd.R (Kd.int .i64) 3 wc w.heap.size (fun k_ => some k_ ≠ ((.slice Ao39 t607.length co39) : Value).ownBlock ∧ some k_ ≠ ((.slice Ao47 t628.length co47) : Value).ownBlock ∧ some k_ ≠ ((.slice Ao57 t632.length co57) : Value).ownBlock ∧ some k_ ≠ ((.slice Ao63 t643.length co63) : Value).ownBlock) (.slice Ao60 t640.length co60) t640) ∧ Az (Kd.R (Kd.int .i64) 3 wc w.heap.size (fun k_ => some k_ ≠ ((.slice Ao39 t607.length co39) : Value).ownBlock ∧ some k_ ≠ ((.slice Ao47 t628.length co47) : Value).ownBlock ∧ some k_ ≠ ((.slice Ao57 t632.length co57) : Value).ownBlock ∧ some k_ ≠ ((.slice Ao60 t640.length co60) : Value).ownBlock) (.slice Ao63 t643.length co63) t643) ∧ Az (Below w.heap.size w wc))
 case first =>
  have H := HC37.out
  clear HC37
  replace H := bez H
  obtain ⟨t662, A67, H⟩ := H
  try dsimp only at H
  replace H := bez H
  obtain ⟨t663, A68, H⟩ := H
  try dsimp only at H
  by_cases c69 : (t662 != t663) = true
  ·rw [if_pos c69] at H
   exact absurd H (by simp)
  rw [if_neg c69] at H
  have c69b0 : (t662 != t663) = false := by simpa using c69
  (try (have c69b1 : decide (t662 = t663) = true := by simpa using c69))
  (try (have c69b2 : (t662 == t663) = true := by simpa using c69))
  clear c69
  (first | rw [c69b0] | (simp only [i64_w, i32_w]; rw [c69b0]) | skip)
  by_cases c70 : t621 = true
  rotate_left
  ·replace c70 := Bool.eq_false_iff.mpr c70
   subst c70
   rw [if_neg ff] at H
   have H' := Az.mk H
   clear H
   go_wp2_with (first | ((with_reducible refine gtC (f := 17) rfl ?_); refine clz Try.func17 (some 141) #[.slice Ao53 t611.length co53, .int .i64 t612, .int .i64 t613] ?_; (with_reducible refine (impl_AreLinked.calls k _ _ t611 t612 t613 t662 _ ?side1 ?side2 A67.out).mono ?_); (case side1 => exact kC (Kd.R_reads' HO615.out).2.2); (case side2 => exact (Kd.R_reads' HO615.out).2.1); rintro e w82 ⟨rfl, hb⟩; refine ⟨_, rfl, ?_⟩; replace HO609 := Az.mk (Kd.R_below (kR HO609.out) hb); replace HO615 := Az.mk (Kd.R_below (kR HO615.out) hb); replace HO619 := Az.mk (Kd.R_below (kR HO619.out) hb); replace HO623 := Az.mk (Kd.R_below (kR HO623.out) hb); replace HO627 := Az.mk (Kd.R_below (kR HO627.out) hb); replace HO631 := Az.mk (Kd.R_below (kR HO631.out) hb); replace HO635 := Az.mk (Kd.R_below (kR HO635.out) hb); replace HO639 := Az.mk (Kd.R_below (kR HO639.out) hb); replace HO642 := Az.mk (Kd.R_below (kR HO642.out) hb); replace HO645 := Az.mk (Kd.R_below (kR HO645.out) hb); replace HO653 := Az.mk (Kd.R_below (kR HO653.out) hb); replace HO657 := Az.mk (Kd.R_below (kR HO657.out) hb); replace HB := Az.mk (bwT bw_32 hb); (try clear hb)) | ((with_reducible refine gtC (f := 17) rfl ?_); refine clz Try.func17 (some 145) #[.slice Ao53 t611.length co53, .int .i64 t613, .int .i64 t612] ?_; (with_reducible refine (impl_AreLinked.calls k _ _ t611 t613 t612 t663 _ ?side1 ?side2 A68.out).mono ?_); (case side1 => exact kC (Kd.R_reads' HO615.out).2.2); (case side2 => exact (Kd.R_reads' HO615.out).2.1); rintro e w83 ⟨rfl, hb⟩; refine ⟨_, rfl, ?_⟩; replace HO609 := Az.mk (Kd.R_below (kR HO609.out) hb); replace HO615 := Az.mk (Kd.R_below (kR HO615.out) hb); replace HO619 := Az.mk (Kd.R_below (kR HO619.out) hb); replace HO623 := Az.mk (Kd.R_below (kR HO623.out) hb); replace HO627 := Az.mk (Kd.R_below (kR HO627.out) hb); replace HO631 := Az.mk (Kd.R_below (kR HO631.out) hb); replace HO635 := Az.mk (Kd.R_below (kR HO635.out) hb); replace HO639 := Az.mk (Kd.R_below (kR HO639.out) hb); replace HO642 := Az.mk (Kd.R_below (kR HO642.out) hb); replace HO645 := Az.mk (Kd.R_below (kR HO645.out) hb); replace HO653 := Az.mk (Kd.R_below (kR HO653.out) hb); replace HO657 := Az.mk (Kd.R_below (kR HO657.out) hb); replace HB := Az.mk (bwT bw_32 hb); (try clear hb)))
   go_meet
   case rel => exact ⟨_, (false), rq2, H', ⟨by first | omega | exact Nat.le_refl _⟩, ⟨by (with_reducible repeat (first | apply Kd.R_alloc | apply Kd.R_drewN | apply Kd.R_drew)); exact Kd.R_mono HO609.out (fun _ hk => ⟨hk.1.1.1.1.1.1.2, ⟨hk.1.1.1.1.1.2, ⟨hk.1.1.1.2, hk.1.1.2⟩⟩⟩)⟩, ⟨by (with_reducible repeat (first | apply Kd.R_alloc | apply Kd.R_drewN | apply Kd.R_drew)); exact Kd.R_mono HO631.out (fun _ hk => ⟨hk.1.1.1.1.1.1.1.1.1.1.2, ⟨hk.1.1.1.1.1.2, ⟨hk.1.1.1.2, hk.1.1.2⟩⟩⟩)⟩, ⟨by (with_reducible repeat (first | apply Kd.R_alloc | apply Kd.R_drewN | apply Kd.R_drew)); exact Kd.R_mono HO635.out (fun _ hk => ⟨hk.1.1.1.1.1.1.1.1.1.1.2, ⟨hk.1.1.1.1.1.2, ⟨hk.1.1.1.2, hk.1.1.2⟩⟩⟩)⟩, ⟨by (with_reducible repeat (first | apply Kd.R_alloc | apply Kd.R_drewN | apply Kd.R_drew)); exact Kd.R_mono HO642.out (fun _ hk => ⟨hk.1.1.1.1.1.1.1.1.1.1.2, ⟨hk.1.1.1.1.1.2, ⟨hk.1.1.1.1.2, hk.1.1.2⟩⟩⟩)⟩, ⟨by (with_reducible repeat (first | apply Kd.R_alloc | apply Kd.R_drewN | apply Kd.R_drew)); exact Kd.R_mono HO645.out (fun _ hk => ⟨hk.1.1.1.1.1.1.1.1.1.1.2, ⟨hk.1.1.1.1.1.2, ⟨hk.1.1.1.1.2, hk.1.1.2⟩⟩⟩)⟩, ⟨bw_32⟩⟩
  subst c70
  rw [if_pos rfl] at H
  replace H := bez H
  obtain ⟨t664, A71, H⟩ := H
  try dsimp only at H
  by_cases c72 : t664 = true
  rotate_left
  ·replace c72 := Bool.eq_false_iff.mpr c72
   subst c72
   rw [if_neg ff] at H
   exact absurd H (by simp)
  subst c72
  rw [if_pos rfl] at H
  replace H := bez H
  obtain ⟨t665, A73, H⟩ := H
  try dsimp only at H
  by_cases c74 : (wrap64 (2 * (t665.length : Int))) = (t616.length : Int)
  rotate_left
  ·rw [if_neg c74] at H
   exact absurd H (by simp)
  rw [if_pos c74] at H
  have c74b0 : ((wrap64 (2 * (t665.length : Int))) == (t616.length : Int)) = true := beq_iff_eq.mpr c74
  have c74b1 : ((wrap64 (2 * (t665.length : Int))) != (t616.length : Int)) = false := bne_eq_false_iff_eq.mpr c74
  clear c74
  replace H := bez H
  obtain ⟨t668, A75, H⟩ := H
  try dsimp only at H
  have H' := Az.mk H
  clear H
  go_wp2_with (first | ((with_reducible refine gtC (f := 17) rfl ?_); refine clz Try.func17 (some 141) #[.slice Ao53 t611.length co53, .int .i64 t612, .int .i64 t613] ?_; (with_reducible refine (impl_AreLinked.calls k _ _ t611 t612 t613 t662 _ ?side1 ?side2 A67.out).mono ?_); (case side1 => exact kC (Kd.R_reads' HO615.out).2.2); (case side2 => exact (Kd.R_reads' HO615.out).2.1); rintro e w76 ⟨rfl, hb⟩; refine ⟨_, rfl, ?_⟩; replace HO609 := Az.mk (Kd.R_below (kR HO609.out) hb); replace HO615 := Az.mk (Kd.R_below (kR HO615.out) hb); replace HO619 := Az.mk (Kd.R_below (kR HO619.out) hb); replace HO623 := Az.mk (Kd.R_below (kR HO623.out) hb); replace HO627 := Az.mk (Kd.R_below (kR HO627.out) hb); replace HO631 := Az.mk (Kd.R_below (kR HO631.out) hb); replace HO635 := Az.mk (Kd.R_below (kR HO635.out) hb); replace HO639 := Az.mk (Kd.R_below (kR HO639.out) hb); replace HO642 := Az.mk (Kd.R_below (kR HO642.out) hb); replace HO645 := Az.mk (Kd.R_below (kR HO645.out) hb); replace HO653 := Az.mk (Kd.R_below (kR HO653.out) hb); replace HO657 := Az.mk (Kd.R_below (kR HO657.out) hb); replace HB := Az.mk (bwT bw_32 hb); (try clear hb)) | ((with_reducible refine gtC (f := 17) rfl ?_); refine clz Try.func17 (some 145) #[.slice Ao53 t611.length co53, .int .i64 t613, .int .i64 t612] ?_; (with_reducible refine (impl_AreLinked.calls k _ _ t611 t613 t612 t663 _ ?side1 ?side2 A68.out).mono ?_); (case side1 => exact kC (Kd.R_reads' HO615.out).2.2); (case side2 => exact (Kd.R_reads' HO615.out).2.1); rintro e w77 ⟨rfl, hb⟩; refine ⟨_, rfl, ?_⟩; replace HO609 := Az.mk (Kd.R_below (kR HO609.out) hb); replace HO615 := Az.mk (Kd.R_below (kR HO615.out) hb); replace HO619 := Az.mk (Kd.R_below (kR HO619.out) hb); replace HO623 := Az.mk (Kd.R_below (kR HO623.out) hb); replace HO627 := Az.mk (Kd.R_below (kR HO627.out) hb); replace HO631 := Az.mk (Kd.R_below (kR HO631.out) hb); replace HO635 := Az.mk (Kd.R_below (kR HO635.out) hb); replace HO639 := Az.mk (Kd.R_below (kR HO639.out) hb); replace HO642 := Az.mk (Kd.R_below (kR HO642.out) hb); replace HO645 := Az.mk (Kd.R_below (kR HO645.out) hb); replace HO653 := Az.mk (Kd.R_below (kR HO653.out) hb); replace HO657 := Az.mk (Kd.R_below (kR HO657.out) hb); replace HB := Az.mk (bwT bw_32 hb); (try clear hb)) | (go_at_call 25; (with_reducible refine (spec_IsMap.calls k _ _ t620 true _ ?side1 ?side2 A71.out).mono ?_); (case side1 => exact kC (Kd.R_reads' HO623.out).2.2); (case side2 => exact (Kd.R_reads' HO623.out).2.1); rintro e w78 ⟨rfl, hb⟩; replace HO609 := Az.mk (Kd.R_below (kR HO609.out) hb); replace HO615 := Az.mk (Kd.R_below (kR HO615.out) hb); replace HO619 := Az.mk (Kd.R_below (kR HO619.out) hb); replace HO623 := Az.mk (Kd.R_below (kR HO623.out) hb); replace HO627 := Az.mk (Kd.R_below (kR HO627.out) hb); replace HO631 := Az.mk (Kd.R_below (kR HO631.out) hb); replace HO635 := Az.mk (Kd.R_below (kR HO635.out) hb); replace HO639 := Az.mk (Kd.R_below (kR HO639.out) hb); replace HO642 := Az.mk (Kd.R_below (kR HO642.out) hb); replace HO645 := Az.mk (Kd.R_below (kR HO645.out) hb); replace HO653 := Az.mk (Kd.R_below (kR HO653.out) hb); replace HO657 := Az.mk (Kd.R_below (kR HO657.out) hb); replace HB := Az.mk (bwT bw_32 hb); (try clear hb)) | (go_at_call 26; (with_reducible refine (spec_CyclesOf.calls k _ _ t620 t665 _ ?side1 ?side2 A73.out).mono ?_); (case side1 => exact kC (Kd.R_reads' HO623.out).2.2); (case side2 => exact (Kd.R_reads' HO623.out).2.1); rintro e w79 ⟨v666, rfl, ho0, hb⟩; have HO667 := Az.mk (Kd.S_lower (Kd.S_new' (Kd.S_new' (Kd.S_new' (Kd.S_new' (Kd.S_new' (Kd.S_new' (Kd.S_new' (Kd.S_new' (Kd.S_new' (Kd.S_new' (Kd.S_new' (Kd.S_new' ho0 (Kd.R_lt (kR HO609.out))) (Kd.R_lt (kR HO615.out))) (Kd.R_lt (kR HO619.out))) (Kd.R_lt (kR HO623.out))) (Kd.R_lt (kR HO627.out))) (Kd.R_lt (kR HO631.out))) (Kd.R_lt (kR HO635.out))) (Kd.R_lt (kR HO639.out))) (Kd.R_lt (kR HO642.out))) (Kd.R_lt (kR HO645.out))) (Kd.R_lt (kR HO653.out))) (Kd.R_lt (kR HO657.out))) (bwZ bw_32)); replace HO609 := Az.mk (Kd.R_below (kR HO609.out) hb); replace HO615 := Az.mk (Kd.R_below (kR HO615.out) hb); replace HO619 := Az.mk (Kd.R_below (kR HO619.out) hb); replace HO623 := Az.mk (Kd.R_below (kR HO623.out) hb); replace HO627 := Az.mk (Kd.R_below (kR HO627.out) hb); replace HO631 := Az.mk (Kd.R_below (kR HO631.out) hb); replace HO635 := Az.mk (Kd.R_below (kR HO635.out) hb); replace HO639 := Az.mk (Kd.R_below (kR HO639.out) hb); replace HO642 := Az.mk (Kd.R_below (kR HO642.out) hb); replace HO645 := Az.mk (Kd.R_below (kR HO645.out) hb); replace HO653 := Az.mk (Kd.R_below (kR HO653.out) hb); replace HO657 := Az.mk (Kd.R_below (kR HO657.out) hb); replace HB := Az.mk (bwT bw_32 hb); (try clear hb); (try clear ho0); obtain ⟨Ao80, co80, eo80⟩ := Kd.S_slice HO667.out; subst eo80) | (go_at_call 27; (with_reducible refine (spec_MapParts.calls k _ _ t620 t668 _ ?side1 ?side2 A75.out).mono ?_); (case side1 => exact kC (Kd.R_reads' HO623.out).2.2); (case side2 => exact (Kd.R_reads' HO623.out).2.1); rintro e w81 ⟨rfl, hb⟩; replace HO609 := Az.mk (Kd.R_below (kR HO609.out) hb); replace HO615 := Az.mk (Kd.R_below (kR HO615.out) hb); replace HO619 := Az.mk (Kd.R_below (kR HO619.out) hb); replace HO623 := Az.mk (Kd.R_below (kR HO623.out) hb); replace HO627 := Az.mk (Kd.R_below (kR HO627.out) hb); replace HO631 := Az.mk (Kd.R_below (kR HO631.out) hb); replace HO635 := Az.mk (Kd.R_below (kR HO635.out) hb); replace HO639 := Az.mk (Kd.R_below (kR HO639.out) hb); replace HO642 := Az.mk (Kd.R_below (kR HO642.out) hb); replace HO645 := Az.mk (Kd.R_below (kR HO645.out) hb); replace HO653 := Az.mk (Kd.R_below (kR HO653.out) hb); replace HO657 := Az.mk (Kd.R_below (kR HO657.out) hb); replace HO667 := Az.mk (Kd.S_below (kS HO667.out) hb); replace HB := Az.mk (bwT bw_32 hb); (try clear hb)))
  go_meet
  case rel => exact ⟨_, ((t668 != 1)), rq2, H', ⟨by first | omega | exact Nat.le_refl _⟩, ⟨by (with_reducible repeat (first | apply Kd.R_alloc | apply Kd.R_drewN | apply Kd.R_drew)); exact Kd.R_mono HO609.out (fun _ hk => ⟨hk.1.1.1.1.1.1.2, ⟨hk.1.1.1.1.1.2, ⟨hk.1.1.1.2, hk.1.1.2⟩⟩⟩)⟩, ⟨by (with_reducible repeat (first | apply Kd.R_alloc | apply Kd.R_drewN | apply Kd.R_drew)); exact Kd.R_mono HO631.out (fun _ hk => ⟨hk.1.1.1.1.1.1.1.1.1.1.2, ⟨hk.1.1.1.1.1.2, ⟨hk.1.1.1.2, hk.1.1.2⟩⟩⟩)⟩, ⟨by (with_reducible repeat (first | apply Kd.R_alloc | apply Kd.R_drewN | apply Kd.R_drew)); exact Kd.R_mono HO635.out (fun _ hk => ⟨hk.1.1.1.1.1.1.1.1.1.1.2, ⟨hk.1.1.1.1.1.2, ⟨hk.1.1.1.2, hk.1.1.2⟩⟩⟩)⟩, ⟨by (with_reducible repeat (first | apply Kd.R_alloc | apply Kd.R_drewN | apply Kd.R_drew)); exact Kd.R_mono HO642.out (fun _ hk => ⟨hk.1.1.1.1.1.1.1.1.1.1.2, ⟨hk.1.1.1.1.1.2, ⟨hk.1.1.1.1.2, hk.1.1.2⟩⟩⟩)⟩, ⟨by (with_reducible repeat (first | apply Kd.R_alloc | apply Kd.R_drewN | apply Kd.R_drew)); exact Kd.R_mono HO645.out (fun _ hk => ⟨hk.1.1.1.1.1.1.1.1.1.1.2, ⟨hk.1.1.1.1.1.2, ⟨hk.1.1.1.1.2, hk.1.1.2⟩⟩⟩)⟩, ⟨bw_32⟩⟩
 clear HC37
 try clear c3
 try clear c16
 try clear c16b0
 try clear c16b1
 try clear c19
 try clear c19b0
 try clear c19b1
 try clear c19b2
 try clear c20
 try clear c20b0
 try clear c20b1
 try clear c20b2
 try clear c22
 try clear c23
 try clear c23b0
 try clear c23b1
 try clear c23b2
 try clear c25
 try clear c28
 try clear c31
 try clear c34
 try clear c34b0
 try clear c34b1
 try clear c34b2
 try clear c36
 try clear c36b0
 try clear c36b1
 try clear c36b2
 try clear c69
 try clear c69b0
 try clear c69b1
 try clear c69b2
 try clear c70
 try clear c72
 try clear c74
 try clear c74b0
 try clear c74b1
 obtain ⟨kq, x168_36, rfl, HA, HJ36, HO_3, HO_14, HO_16, HO_20, HO_21, HB⟩ := hcut
 cases kq with
 | zero => exact absurd HA.out (by simp [laws_FnGauss.j0])
 | succ kj36 =>
  have H := HA.out
  clear HA
  simp only [laws_FnGauss.j0] at H
  by_cases c84 : x168_36 = true
  ·subst c84
   rw [if_pos rfl] at H
   exact absurd H (by simp)
  replace c84 := Bool.eq_false_iff.mpr c84
  subst c84
  rw [if_neg ff] at H
  have HC85 := Az.mk H
  clear H
  rename_i Kt at_ K0 a0
  have AT := Az.mk at_
  clear at_
  go_wp2
  exact AT.out _ _ (laws_FnGauss.p18 k A0 c0 l0 r w t607 t610 t611 t612 t613 t616 t617 t620 t621 t624 t625 t628 t629 t632 t633 t636 t637 t640 t643 Ao39 co39 Ao43 co43 Ao47 co47 Ao53 co53 Ao55 co55 Ao56 co56 Ao57 co57 Ao58 co58 Ao60 co60 Ao63 co63 nd wc u23 u24 u25 u26 u27 u28 u29 u30 u31 u32 u33 u34 u35 u36 u37 u38 u39 u40 u41 u42 u43 u44 u45 u46 u47 u48 u49 u50 u51 u52 u53 u54 u55 u56 u57 u58 u59 u60 u61 u62 u63 u64 u65 u66 u67 u68 u69 u70 u71 u72 u73 u74 u75 u76 u77 u78 u79 u80 u81 u82 u83 u84 u85 u86 u87 u88 u89 u90 u91 u92 u93 u94 u95 u96 u97 u98 u99 u100 u101 u102 u103 u104 u105 u106 u107 u108 u109 u110 u111 u112 u113 u114 u115 u116 u117 u118 u119 u120 u121 u122 u123 u124 u125 u126 u127 u128 u129 u130 u131 u132 u133 u134 u135 u136 u137 u138 u139 u140 u141 u142 u143 u144 u145 u146 u147 u148 u149 u150 u151 u152 u153 u154 u155 u156 u157 u158 u159 u160 u161 u162 u163 u164 u165 u166 u167 u169 u170 u171 u172 u173 u174 u175 u176 u177 u178 u179 u180 u181 u182 u183 u184 u185 u186 u187 u188 u189 u190 u191 u192 u193 u194 u195 u196 u197 u198 u199 u200 u201 u202 u203 u204 u205 u206 u207 u208 u209 u210 u211 u212 u213 u214 u215 u216 u217 u218 u219 u220 u221 u222 u223 u224 u225 u226 u227 u228 u229 u230 u231 u232 u233 HO_3 HO_16 HO_20 HO_21 HB kj36 HJ36 HC85)
theorem laws_FnGauss.walk (P : laws_FnGauss.Pure) (a0 : Option Addr) (len0 cap0 : Nat) (z0 : List Int) (w : World) (w0 : (a0 = none ∧ len0 = 0 ∧ cap0 = 0 ∧ z0 = []) ∨ ∃ x, a0 = some x ∧ len0 ≤ cap0 ∧ cap0 ≤ maxLen ∧ z0.length = cap0 ∧ (∀ i, i < z0.length → w.cell? (x.add i) = some (.int .u8 (z0.getD i 0))) ∧ ∀ n ∈ z0, (Lit.int .u8 n).wf = true) (y0 : len0 * 1 ≤ 140737488351232) :
  Calls Try.prog 3 #[.slice a0 len0 cap0] w fun e w' => e = .returned (.bool true) ∧ Below w.heap.size w w' := by
 obtain ⟨l0, rfl, hr0, hm0, hw0, hc0⟩ := ReadsInt.ofRowC w0
 obtain ⟨k, h⟩ := P l0 hm0 y0 hw0
 refine (laws_FnGauss.calls k _ _ l0 true w (Kd.C_of_reads (d := (0 : Int)) (h1 := fun _ => rfl) hr0) hc0 h).mono ?_
 rintro e w' ⟨rfl, hd⟩
 exact ⟨rfl, hd⟩

end Go.Proofs.Ytkmjcdlhlhefdaa.P
