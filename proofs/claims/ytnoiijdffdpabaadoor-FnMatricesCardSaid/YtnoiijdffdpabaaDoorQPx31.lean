-- By this session's driver (wip/tools/mk.py) of the kit's print program, over several statements at once. Not trusted: Lean checks it.
import Derived.Test.YtnoiijdffdpabaaDoorQWZip
import Derived.Test.YtnoiijdffdpabaaDoorQPx0
import Derived.Test.YtnoiijdffdpabaaDoorQPx2
import Derived.Test.YtnoiijdffdpabaaDoorQPx5
import Derived.Test.YtnoiijdffdpabaaDoorQPx6
import Derived.Test.YtnoiijdffdpabaaDoorQPx9
import Derived.Test.YtnoiijdffdpabaaDoorQPx10
import Derived.Test.YtnoiijdffdpabaaDoorQPx11
import Derived.Test.YtnoiijdffdpabaaDoorQPx12
import Derived.Test.YtnoiijdffdpabaaDoorQPx14
import Derived.Test.YtnoiijdffdpabaaDoorQPx15
import Derived.Test.YtnoiijdffdpabaaDoorQPx16
import Derived.Test.YtnoiijdffdpabaaDoorQPx17
import Derived.Test.YtnoiijdffdpabaaDoorQPx18
import Derived.Test.YtnoiijdffdpabaaDoorQPx19
import Derived.Test.YtnoiijdffdpabaaDoorQPx20
import Derived.Test.YtnoiijdffdpabaaDoorQPx21
import Derived.Test.YtnoiijdffdpabaaDoorQPx22
import Derived.Test.YtnoiijdffdpabaaDoorQPx23
import Derived.Test.YtnoiijdffdpabaaDoorQPx24
import Derived.Test.YtnoiijdffdpabaaDoorQPx25
import Derived.Test.YtnoiijdffdpabaaDoorQPx30
namespace Go.Proofs.YtnoiijdffdpabaaDoor.P
open Go.RowKit Go.Proofs.YtnoiijdffdpabaaDoorW.PrintWords Go.Proofs.YtnoiijdffdpabaaDoorW.PrintLast Go.Proofs.YtnoiijdffdpabaaDoorW.PrintMore
attribute [local go_sem] max2_int min2_int max_two min_two max_three min_three max_four min_four   -- for this text's walks alone
set_option linter.unusedVariables false
set_option linter.unusedSimpArgs false
theorem csn_ {p : Prop} (h : p := by repeat' (first | (with_reducible apply And.intro) | exact (bkC (Az.out (by with_reducible assumption)) _).trans (by rfl) | exact (bkC (bkN (Az.out (by with_reducible assumption)) _) _).trans (by rfl) | exact (bkC (bkD (Az.out (by with_reducible assumption))) _).trans (by rfl))) : p := h
open Bool renaming true → T, false → F
theorem bw_31 {n : Nat} {v v' : World} (h : Below n v v' := by repeat (first | (with_reducible first | exact HB.out | apply bwA | apply pbN | apply bwD | refine bwS ?_ GE509.out | refine bwS ?_ GE510.out | refine bwS ?_ GE516.out | refine bwS ?_ GE522.out | refine bwS ?_ GE529.out | refine bwS ?_ GE530.out | refine bwS ?_ GE534.out | refine bwS ?_ GE538.out | refine bwS ?_ GE545.out | refine bwS ?_ GE551.out | refine bwS ?_ GE554.out) | exact HB.out)) : Below n v v' := h
theorem ln_31 {P : Prop} (h : P := by (try simp only [List.map_toArray, List.map_cons, List.map_nil]); first | done | rfl | (simp only [List.length_drop, List.length_take]; rfl)) : P := h
open Option renaming bind_eq_some_iff → be
theorem z31_0 {p : Prop} (h : p := by kernel_rfl) : p := h

attribute [local go_sem high] eqA25 eqA35
set_option maxHeartbeats 8000000 in
set_option maxRecDepth 100000 in
theorem laws_FnMatrices.calls (k : Nat) (A0 : Option Addr) (c0 : Nat) (l0 : List Int) (r : Bool) (w : World) (hr0 : Kd.C (Kd.int .u8) w A0 l0.length l0) (hc0 : l0.length ≤ c0) (h : laws_FnMatrices.f k l0 = some r) (hT : Tabs w := by exact tabs_) :
  Calls Tryd.prog 4 #[.slice A0 l0.length c0] w fun e w' => e = .returned (.bool r) ∧ Below w.heap.size w w' := by
 have HT := Az.mk hT
 clear hT
 have hu25 := Tryd.underlying25
 have hu35 := Tryd.underlying35
 have HR0 := Az.mk hr0
 have HC0 := Az.mk hc0
 clear hr0 hc0
 have HB := Az.mk (Below.refl w.heap.size w)
 have H : ((laws_big.f l0).bind fun t500 => (if t500 = true then (some true) else ((spec_DrawTimesMatrix.f k l0).bind fun bt501 => ((impl_TimesMatrix.f k bt501.1 bt501.2.1 bt501.2.2.1 bt501.2.2.2.1 bt501.2.2.2.2.1 bt501.2.2.2.2.2.1 bt501.2.2.2.2.2.2.1 bt501.2.2.2.2.2.2.2).bind fun bt511 => ((spec_TimesMatrix.f k bt501.1 bt501.2.1 bt501.2.2.1 bt501.2.2.2.1 bt501.2.2.2.2.1 bt501.2.2.2.2.2.1 bt501.2.2.2.2.2.2.1 bt501.2.2.2.2.2.2.2).bind fun bt517 => ((spec_DrawMoveSlope.f k l0).bind fun bt523 => ((impl_MoveSlope.f k bt523.1 bt523.2.1 bt523.2.2.1 bt523.2.2.2.1 bt523.2.2.2.2.1 bt523.2.2.2.2.2).bind fun bt531 => ((spec_MoveSlope.f k bt523.1 bt523.2.1 bt523.2.2.1 bt523.2.2.2.1 bt523.2.2.2.2.1 bt523.2.2.2.2.2).bind fun bt535 => ((spec_DrawTurnsOf.f k l0).bind fun t539 => ((impl_TurnsOf.f k t539).bind fun bt540 => ((spec_TurnsOf.f k t539).bind fun bt546 => ((spec_DrawTurnsTo.f k l0).bind fun bt552 => ((impl_TurnsTo.f k bt552.1 bt552.2).bind fun t555 => (if (bt511.2.2.2.2 != bt517.2.2.2.2) = true then (none) else (if (!(bt511.1 == bt517.1) || (!(bt511.2.1 == bt517.2.1) || (!(bt511.2.2.1 == bt517.2.2.1) || (!(bt511.2.2.2.1 == bt517.2.2.2.1))))) = true then (none) else (if (bt531.2.2 != bt535.2.2) = true then (none) else (if (!(bt531.1 == bt535.1) || (!(bt531.2.1 == bt535.2.1))) = true then (none) else (if (bt540.2.2.2.2 != bt546.2.2.2.2) = true then (none) else (if (!(bt540.1 == bt546.1) || (!(bt540.2.1 == bt546.2.1) || (!(bt540.2.2.1 == bt546.2.2.1) || (!(bt540.2.2.2.1 == bt546.2.2.2.1))))) = true then (none) else ((spec_TurnsTo.f k bt552.1 bt552.2).bind fun t556 => (if t555.toList = t556.toList then ((impl_IsMatrix.f k bt501.1 bt501.2.1 bt501.2.2.1 bt501.2.2.2.1).bind fun t557 => ((spec_IsMatrix.f k bt501.1 bt501.2.1 bt501.2.2.1 bt501.2.2.2.1).bind fun t558 => (if (t557 != t558) = true then (none) else ((impl_InverseMatrix.f k bt501.1 bt501.2.1 bt501.2.2.1 bt501.2.2.2.1).bind fun bt559 => ((spec_InverseMatrix.f k bt501.1 bt501.2.1 bt501.2.2.1 bt501.2.2.2.1).bind fun bt563 => (if (!(bt559.1 == bt563.1) || (!(bt559.2.1 == bt563.2.1) || (!(bt559.2.2.1 == bt563.2.2.1) || (!(bt559.2.2.2 == bt563.2.2.2))))) = true then (none) else ((impl_TraceOf.f k bt501.1 bt501.2.1 bt501.2.2.1 bt501.2.2.2.1).bind fun t567 => ((spec_TraceOf.f k bt501.1 bt501.2.1 bt501.2.2.1 bt501.2.2.2.1).bind fun t568 => (if t567 = t568 then ((impl_KindOf.f k bt501.1 bt501.2.1 bt501.2.2.1 bt501.2.2.2.1).bind fun t569 => ((spec_KindOf.f k bt501.1 bt501.2.1 bt501.2.2.1 bt501.2.2.2.1).bind fun t570 => (if t569.toList = t570.toList then ((impl_OrderOf.f k bt501.1 bt501.2.1 bt501.2.2.1 bt501.2.2.2.1).bind fun t571 => ((spec_OrderOf.f k bt501.1 bt501.2.1 bt501.2.2.1 bt501.2.2.2.1).bind fun t572 => (if t571 = t572 then ((impl_FixedSlopes.f k bt501.1 bt501.2.1 bt501.2.2.1 bt501.2.2.2.1).bind fun t573 => ((spec_FixedSlopes.f k bt501.1 bt501.2.1 bt501.2.2.1 bt501.2.2.2.1).bind fun t576 => ((laws_sameSlopes.f k t573 t576).bind fun t579 => (if t579 = true then ((impl_MatrixText.f k bt501.1 bt501.2.1 bt501.2.2.1 bt501.2.2.2.1).bind fun t580 => ((spec_MatrixText.f k bt501.1 bt501.2.1 bt501.2.2.1 bt501.2.2.2.1).bind fun t581 => (if t580.toList = t581.toList then (if bt511.2.2.2.2 = true then ((impl_MoveSlope.f k bt501.2.2.2.2.1 bt501.2.2.2.2.2.1 bt501.2.2.2.2.2.2.1 bt501.2.2.2.2.2.2.2 bt523.2.2.2.2.1 bt523.2.2.2.2.2).bind fun bt582 => ((impl_MoveSlope.f k bt501.1 bt501.2.1 bt501.2.2.1 bt501.2.2.2.1 bt582.1 bt582.2.1).bind fun bt586 => ((impl_MoveSlope.f k bt511.1 bt511.2.1 bt511.2.2.1 bt511.2.2.2.1 bt523.2.2.2.2.1 bt523.2.2.2.2.2).bind fun bt590 => (if bt582.2.2 = true then (if bt586.2.2 = true then (if bt590.2.2 = true then (if (!(bt586.1 == bt590.1) || (!(bt586.2.1 == bt590.2.1))) = true then (none) else (laws_FnMatrices.j0 k bt531.2.2 t555 bt501.1 bt501.2.1 bt501.2.2.1 bt501.2.2.2.1 bt523.1 bt523.2.1 bt523.2.2.1 bt523.2.2.2.1 bt523.2.2.2.2.1 bt523.2.2.2.2.2 bt531.1 bt531.2.1 bt552.1 bt552.2)) else (laws_FnMatrices.j0 k bt531.2.2 t555 bt501.1 bt501.2.1 bt501.2.2.1 bt501.2.2.2.1 bt523.1 bt523.2.1 bt523.2.2.1 bt523.2.2.2.1 bt523.2.2.2.2.1 bt523.2.2.2.2.2 bt531.1 bt531.2.1 bt552.1 bt552.2)) else (laws_FnMatrices.j0 k bt531.2.2 t555 bt501.1 bt501.2.1 bt501.2.2.1 bt501.2.2.2.1 bt523.1 bt523.2.1 bt523.2.2.1 bt523.2.2.2.1 bt523.2.2.2.2.1 bt523.2.2.2.2.2 bt531.1 bt531.2.1 bt552.1 bt552.2)) else (laws_FnMatrices.j0 k bt531.2.2 t555 bt501.1 bt501.2.1 bt501.2.2.1 bt501.2.2.2.1 bt523.1 bt523.2.1 bt523.2.2.1 bt523.2.2.2.1 bt523.2.2.2.2.1 bt523.2.2.2.2.2 bt531.1 bt531.2.1 bt552.1 bt552.2))))) else (laws_FnMatrices.j0 k bt531.2.2 t555 bt501.1 bt501.2.1 bt501.2.2.1 bt501.2.2.2.1 bt523.1 bt523.2.1 bt523.2.2.1 bt523.2.2.2.1 bt523.2.2.2.2.1 bt523.2.2.2.2.2 bt531.1 bt531.2.1 bt552.1 bt552.2)) else (none)))) else (none))))) else (none)))) else (none)))) else (none)))))))))) else (none)))))))))))))))))))))) = some r := h
 clear h
 replace H := bez H
 obtain ⟨t500, A2, H⟩ := H
 try dsimp only at H
 by_cases c3 : t500 = true
 ·subst c3
  rw [if_pos rfl] at H
  obtain rfl := Option.some.inj H
  go_enter Tryd.func4, Tryd.ntmps4
  go_wp2_with (first | ((with_reducible refine gtC (f := 8) rfl ?_); refine clz Tryd.func8 (some 41) #[.slice A0 l0.length c0] ?_; (with_reducible refine (laws_big.calls _ _ l0 true _ ?side1 ?side2 A2.out).mono ?_); (case side1 => repeat (first | exact HR0.out | (with_reducible refine Kd.C_alloc ?_ _) | (with_reducible refine Kd.C_drewN ?_ _) | (with_reducible refine Kd.C_drew ?_))); (case side2 => exact HC0.out); rintro e w' ⟨rfl, ⟨nd, rfl⟩⟩; refine ⟨_, rfl, ?_⟩))
  go_ret
  exact ⟨rq1, bw_31⟩
 replace c3 := Bool.eq_false_iff.mpr c3
 subst c3
 rw [if_neg (show ¬ (false = true) by decide)] at H
 replace H := bez H
 obtain ⟨⟨t501, t502, t503, t504, t505, t506, t507, t508⟩, A4, H⟩ := H
 try dsimp only at H
 replace H := bez H
 obtain ⟨⟨t511, t512, t513, t514, t515⟩, A5, H⟩ := H
 try dsimp only at H
 replace H := bez H
 obtain ⟨⟨t517, t518, t519, t520, t521⟩, A6, H⟩ := H
 try dsimp only at H
 replace H := bez H
 obtain ⟨⟨t523, t524, t525, t526, t527, t528⟩, A7, H⟩ := H
 try dsimp only at H
 replace H := bez H
 obtain ⟨⟨t531, t532, t533⟩, A8, H⟩ := H
 try dsimp only at H
 replace H := bez H
 obtain ⟨⟨t535, t536, t537⟩, A9, H⟩ := H
 try dsimp only at H
 replace H := bez H
 obtain ⟨t539, A10, H⟩ := H
 try dsimp only at H
 replace H := bez H
 obtain ⟨⟨t540, t541, t542, t543, t544⟩, A11, H⟩ := H
 try dsimp only at H
 replace H := bez H
 obtain ⟨⟨t546, t547, t548, t549, t550⟩, A12, H⟩ := H
 try dsimp only at H
 replace H := bez H
 obtain ⟨⟨t552, t553⟩, A13, H⟩ := H
 try dsimp only at H
 replace H := bez H
 obtain ⟨t555, A14, H⟩ := H
 try dsimp only at H
 by_cases c15 : (t515 != t521) = true
 ·rw [if_pos c15] at H
  have c15b0 : (t515 != t521) = true := c15
  (try (have c15b1 : decide (t515 = t521) = false := by simpa using c15))
  (try (have c15b2 : (t515 == t521) = false := by simpa using c15))
  (try (have c15b3 : ¬ (t515 = t521) := by simpa using c15))
  clear c15
  exact absurd H (by simp)
 rw [if_neg c15] at H
 have c15b0 : (t515 != t521) = false := by simpa using c15
 (try (have c15b1 : decide (t515 = t521) = true := by simpa using c15))
 (try (have c15b2 : (t515 == t521) = true := by simpa using c15))
 clear c15
 by_cases c16 : (!(t511 == t517) || (!(t512 == t518) || (!(t513 == t519) || (!(t514 == t520))))) = true
 ·rw [if_pos c16] at H
  have c16b0 : (!(t511 == t517) || (!(t512 == t518) || (!(t513 == t519) || (!(t514 == t520))))) = true := c16
  clear c16
  exact absurd H (by simp)
 rw [if_neg c16] at H
 have c16b0 : (!(t511 == t517) || (!(t512 == t518) || (!(t513 == t519) || (!(t514 == t520))))) = false := by simpa using c16
 clear c16
 by_cases c17 : (t533 != t537) = true
 ·rw [if_pos c17] at H
  have c17b0 : (t533 != t537) = true := c17
  (try (have c17b1 : decide (t533 = t537) = false := by simpa using c17))
  (try (have c17b2 : (t533 == t537) = false := by simpa using c17))
  (try (have c17b3 : ¬ (t533 = t537) := by simpa using c17))
  clear c17
  exact absurd H (by simp)
 rw [if_neg c17] at H
 have c17b0 : (t533 != t537) = false := by simpa using c17
 (try (have c17b1 : decide (t533 = t537) = true := by simpa using c17))
 (try (have c17b2 : (t533 == t537) = true := by simpa using c17))
 clear c17
 by_cases c18 : (!(t531 == t535) || (!(t532 == t536))) = true
 ·rw [if_pos c18] at H
  have c18b0 : (!(t531 == t535) || (!(t532 == t536))) = true := c18
  clear c18
  exact absurd H (by simp)
 rw [if_neg c18] at H
 have c18b0 : (!(t531 == t535) || (!(t532 == t536))) = false := by simpa using c18
 clear c18
 by_cases c19 : (t544 != t550) = true
 ·rw [if_pos c19] at H
  have c19b0 : (t544 != t550) = true := c19
  (try (have c19b1 : decide (t544 = t550) = false := by simpa using c19))
  (try (have c19b2 : (t544 == t550) = false := by simpa using c19))
  (try (have c19b3 : ¬ (t544 = t550) := by simpa using c19))
  clear c19
  exact absurd H (by simp)
 rw [if_neg c19] at H
 have c19b0 : (t544 != t550) = false := by simpa using c19
 (try (have c19b1 : decide (t544 = t550) = true := by simpa using c19))
 (try (have c19b2 : (t544 == t550) = true := by simpa using c19))
 clear c19
 by_cases c20 : (!(t540 == t546) || (!(t541 == t547) || (!(t542 == t548) || (!(t543 == t549))))) = true
 ·rw [if_pos c20] at H
  have c20b0 : (!(t540 == t546) || (!(t541 == t547) || (!(t542 == t548) || (!(t543 == t549))))) = true := c20
  clear c20
  exact absurd H (by simp)
 rw [if_neg c20] at H
 have c20b0 : (!(t540 == t546) || (!(t541 == t547) || (!(t542 == t548) || (!(t543 == t549))))) = false := by simpa using c20
 clear c20
 replace H := bez H
 obtain ⟨t556, A21, H⟩ := H
 try dsimp only at H
 by_cases c22 : t555.toList = t556.toList
 rotate_left
 ·rw [if_neg c22] at H
  have c22b0 : (t555.toList == t556.toList) = false := beq_eq_false_iff_ne.mpr c22
  have c22b1 : (t555.toList != t556.toList) = true := bne_iff_ne.mpr c22
  exact absurd H (by simp)
 rw [if_pos c22] at H
 have c22b0 : (t555.toList == t556.toList) = true := beq_iff_eq.mpr c22
 have c22b1 : (t555.toList != t556.toList) = false := bne_eq_false_iff_eq.mpr c22
 clear c22
 replace H := bez H
 obtain ⟨t557, A23, H⟩ := H
 try dsimp only at H
 replace H := bez H
 obtain ⟨t558, A24, H⟩ := H
 try dsimp only at H
 by_cases c25 : (t557 != t558) = true
 ·rw [if_pos c25] at H
  have c25b0 : (t557 != t558) = true := c25
  (try (have c25b1 : decide (t557 = t558) = false := by simpa using c25))
  (try (have c25b2 : (t557 == t558) = false := by simpa using c25))
  (try (have c25b3 : ¬ (t557 = t558) := by simpa using c25))
  clear c25
  exact absurd H (by simp)
 rw [if_neg c25] at H
 have c25b0 : (t557 != t558) = false := by simpa using c25
 (try (have c25b1 : decide (t557 = t558) = true := by simpa using c25))
 (try (have c25b2 : (t557 == t558) = true := by simpa using c25))
 clear c25
 replace H := bez H
 obtain ⟨⟨t559, t560, t561, t562⟩, A26, H⟩ := H
 try dsimp only at H
 replace H := bez H
 obtain ⟨⟨t563, t564, t565, t566⟩, A27, H⟩ := H
 try dsimp only at H
 by_cases c28 : (!(t559 == t563) || (!(t560 == t564) || (!(t561 == t565) || (!(t562 == t566))))) = true
 ·rw [if_pos c28] at H
  have c28b0 : (!(t559 == t563) || (!(t560 == t564) || (!(t561 == t565) || (!(t562 == t566))))) = true := c28
  clear c28
  exact absurd H (by simp)
 rw [if_neg c28] at H
 have c28b0 : (!(t559 == t563) || (!(t560 == t564) || (!(t561 == t565) || (!(t562 == t566))))) = false := by simpa using c28
 clear c28
 replace H := bez H
 obtain ⟨t567, A29, H⟩ := H
 try dsimp only at H
 replace H := bez H
 obtain ⟨t568, A30, H⟩ := H
 try dsimp only at H
 by_cases c31 : t567 = t568
 rotate_left
 ·rw [if_neg c31] at H
  have c31b0 : (t567 == t568) = false := beq_eq_false_iff_ne.mpr c31
  have c31b1 : (t567 != t568) = true := bne_iff_ne.mpr c31
  exact absurd H (by simp)
 rw [if_pos c31] at H
 have c31b0 : (t567 == t568) = true := beq_iff_eq.mpr c31
 have c31b1 : (t567 != t568) = false := bne_eq_false_iff_eq.mpr c31
 clear c31
 replace H := bez H
 obtain ⟨t569, A32, H⟩ := H
 try dsimp only at H
 replace H := bez H
 obtain ⟨t570, A33, H⟩ := H
 try dsimp only at H
 by_cases c34 : t569.toList = t570.toList
 rotate_left
 ·rw [if_neg c34] at H
  have c34b0 : (t569.toList == t570.toList) = false := beq_eq_false_iff_ne.mpr c34
  have c34b1 : (t569.toList != t570.toList) = true := bne_iff_ne.mpr c34
  exact absurd H (by simp)
 rw [if_pos c34] at H
 have c34b0 : (t569.toList == t570.toList) = true := beq_iff_eq.mpr c34
 have c34b1 : (t569.toList != t570.toList) = false := bne_eq_false_iff_eq.mpr c34
 clear c34
 replace H := bez H
 obtain ⟨t571, A35, H⟩ := H
 try dsimp only at H
 replace H := bez H
 obtain ⟨t572, A36, H⟩ := H
 try dsimp only at H
 by_cases c37 : t571 = t572
 rotate_left
 ·rw [if_neg c37] at H
  have c37b0 : (t571 == t572) = false := beq_eq_false_iff_ne.mpr c37
  have c37b1 : (t571 != t572) = true := bne_iff_ne.mpr c37
  exact absurd H (by simp)
 rw [if_pos c37] at H
 have c37b0 : (t571 == t572) = true := beq_iff_eq.mpr c37
 have c37b1 : (t571 != t572) = false := bne_eq_false_iff_eq.mpr c37
 clear c37
 replace H := bez H
 obtain ⟨t573, A38, H⟩ := H
 try dsimp only at H
 replace H := bez H
 obtain ⟨t576, A39, H⟩ := H
 try dsimp only at H
 replace H := bez H
 obtain ⟨t579, A40, H⟩ := H
 try dsimp only at H
 by_cases c41 : t579 = true
 rotate_left
 ·replace c41 := Bool.eq_false_iff.mpr c41
  subst c41
  rw [if_neg (show ¬ (false = true) by decide)] at H
  exact absurd H (by simp)
 subst c41
 rw [if_pos rfl] at H
 replace H := bez H
 obtain ⟨t580, A42, H⟩ := H
 try dsimp only at H
 replace H := bez H
 obtain ⟨t581, A43, H⟩ := H
 try dsimp only at H
 by_cases c44 : t580.toList = t581.toList
 rotate_left
 ·rw [if_neg c44] at H
  exact absurd H (by simp)
 rw [if_pos c44] at H
 have c44b0 : (t580.toList == t581.toList) = true := beq_iff_eq.mpr c44
 have c44b1 : (t580.toList != t581.toList) = false := bne_eq_false_iff_eq.mpr c44
 clear c44
 have HC45 := Az.mk H
 clear H
 go_enter Tryd.func4, Tryd.ntmps4
 try go_wp2_with (first | ((with_reducible refine gtC (f := 8) rfl ?_); refine clz Tryd.func8 (some 41) #[.slice A0 l0.length c0] ?_; (with_reducible refine (laws_big.calls _ _ l0 false _ ?side1 ?side2 A2.out).mono ?_); (case side1 => repeat (first | exact HR0.out | (with_reducible refine Kd.C_alloc ?_ _) | (with_reducible refine Kd.C_drewN ?_ _) | (with_reducible refine Kd.C_drew ?_))); (case side2 => exact HC0.out); rintro e w' ⟨rfl, ⟨nd, rfl⟩⟩; refine ⟨_, rfl, ?_⟩) | ((with_reducible refine gtC (f := 9) rfl ?_); refine clz Tryd.func9 (some 44) #[.slice A0 l0.length c0] ?_; (with_reducible refine (spec_DrawTimesMatrix.calls k _ _ l0 t501 t502 t503 t504 t505 t506 t507 t508 _ ?side1 ?side2 A4.out).mono ?_); (case side1 => repeat (first | exact HR0.out | (with_reducible refine Kd.C_alloc ?_ _) | (with_reducible refine Kd.C_drewN ?_ _) | (with_reducible refine Kd.C_drew ?_))); (case side2 => exact HC0.out); rintro e w46 ⟨rfl, hb⟩; refine ⟨_, rfl, ?_⟩; replace HB := Az.mk (bwT bw_31 hb); (try clear hb)) | ((with_reducible refine gtD (N := 3) rfl ?_); (try (refine gate_guard (by rfl) ?_; dsimp only)); refine bx (N := 3) (cs := #[.int .i64 0, .int .i64 0, .int .i64 0, .int .i64 0]) (t := 25) ?_; intro gb509 hg w47 hbox hb; have BK509 := Az.mk (hbox); have GW509 := gwz hg bw_31; have GE509 := gwz hg bw_31; replace HB := Az.mk (bwT bw_31 hb); clear hb hbox hg) | ((with_reducible refine gtD (N := 4) rfl ?_); (try (refine gate_guard (by rfl) ?_; dsimp only)); refine bx (N := 4) (cs := #[.int .i64 0, .int .i64 0, .int .i64 0, .int .i64 0]) (t := 25) ?_; intro gb510 hg w48 hbox hb; have BK510 := Az.mk (hbox); have GW510 := gwz hg bw_31; have GE510 := gwz hg bw_31; replace HB := Az.mk (bwT bw_31 hb); have NB509_510 := nlt BK509 hg; have NB510_509 := ngt BK509 hg; replace BK509 := bkz BK509 hb; clear hb hbox hg; have hnb49 := NB509_510.out; have hnc49 := NB510_509.out; obtain ⟨hcz50_0, hcz50_1, hcz50_2, hcz50_3, hfz50_0, hfz50_1, hfz50_2, hfz50_3⟩ := bq4 BK509; obtain ⟨hcz51_0, hcz51_1, hcz51_2, hcz51_3, hfz51_0, hfz51_1, hfz51_2, hfz51_3⟩ := bq4 BK510) | ((with_reducible refine gtC (f := 10) rfl ?_); refine clz Tryd.func10 (some 50) #[.agg #[.int .i64 t501, .int .i64 t502, .int .i64 t503, .int .i64 t504], .agg #[.int .i64 t505, .int .i64 t506, .int .i64 t507, .int .i64 t508]] ?_; (with_reducible refine (impl_TimesMatrix.calls k t501 t502 t503 t504 t505 t506 t507 t508 t511 t512 t513 t514 t515 _ A5.out).mono ?_); rintro e w52 ⟨rfl, hb⟩; refine ⟨_, rfl, ?_⟩; replace BK509 := Az.mk (bkB (g := gb509) (o := .cells #[.int .i64 t501, .int .i64 t502, .int .i64 t503, .int .i64 t504] 25 (0, 0)) bkv hb); replace BK510 := Az.mk (bkB (g := gb510) (o := .cells #[.int .i64 t505, .int .i64 t506, .int .i64 t507, .int .i64 t508] 25 (0, 0)) bkv hb); replace HB := Az.mk (bwT bw_31 hb); (try clear hb)) | ((with_reducible refine gtD (N := 5) rfl ?_); (try (refine gate_guard (by rfl) ?_; dsimp only)); refine bx (N := 5) (cs := #[.int .i64 0, .int .i64 0, .int .i64 0, .int .i64 0]) (t := 25) ?_; intro gb516 hg w53 hbox hb; have BK516 := Az.mk (hbox); have GW516 := gwz hg bw_31; have GE516 := gwz hg bw_31; replace HB := Az.mk (bwT bw_31 hb); have NB509_516 := nlt BK509 hg; have NB516_509 := ngt BK509 hg; replace BK509 := bkz BK509 hb; have NB510_516 := nlt BK510 hg; have NB516_510 := ngt BK510 hg; replace BK510 := bkz BK510 hb; clear hb hbox hg; have hnb54 := NB516_509.out; have hnc54 := NB509_516.out; have hnb55 := NB516_510.out; have hnc55 := NB510_516.out; obtain ⟨hcz56_0, hcz56_1, hcz56_2, hcz56_3, hfz56_0, hfz56_1, hfz56_2, hfz56_3⟩ := bq4 BK516; obtain ⟨hcz57_0, hcz57_1, hcz57_2, hcz57_3, hfz57_0, hfz57_1, hfz57_2, hfz57_3⟩ := bq4 BK509; obtain ⟨hcz58_0, hcz58_1, hcz58_2, hcz58_3, hfz58_0, hfz58_1, hfz58_2, hfz58_3⟩ := bq4 BK510) | ((with_reducible refine gtC (f := 11) rfl ?_); refine clz Tryd.func11 (some 56) #[.agg #[.int .i64 t501, .int .i64 t502, .int .i64 t503, .int .i64 t504], .agg #[.int .i64 t505, .int .i64 t506, .int .i64 t507, .int .i64 t508]] ?_; (with_reducible refine (spec_TimesMatrix.calls k t501 t502 t503 t504 t505 t506 t507 t508 t517 t518 t519 t520 t521 _ A6.out).mono ?_); rintro e w59 ⟨rfl, hb⟩; refine ⟨_, rfl, ?_⟩; replace BK509 := Az.mk (bkB (g := gb509) (o := .cells #[.int .i64 t501, .int .i64 t502, .int .i64 t503, .int .i64 t504] 25 (0, 0)) bkv hb); replace BK510 := Az.mk (bkB (g := gb510) (o := .cells #[.int .i64 t505, .int .i64 t506, .int .i64 t507, .int .i64 t508] 25 (0, 0)) bkv hb); replace BK516 := Az.mk (bkB (g := gb516) (o := .cells #[.int .i64 t511, .int .i64 t512, .int .i64 t513, .int .i64 t514] 25 (0, 0)) bkv hb); replace HB := Az.mk (bwT bw_31 hb); (try clear hb)) | ((with_reducible refine gtD (N := 7) rfl ?_); (try (refine gate_guard (by rfl) ?_; dsimp only)); refine bx (N := 7) (cs := #[.int .i64 0, .int .i64 0, .int .i64 0, .int .i64 0]) (t := 25) ?_; intro gb522 hg w60 hbox hb; have BK522 := Az.mk (hbox); have GW522 := gwz hg bw_31; have GE522 := gwz hg bw_31; replace HB := Az.mk (bwT bw_31 hb); have NB509_522 := nlt BK509 hg; have NB522_509 := ngt BK509 hg; replace BK509 := bkz BK509 hb; have NB510_522 := nlt BK510 hg; have NB522_510 := ngt BK510 hg; replace BK510 := bkz BK510 hb; have NB516_522 := nlt BK516 hg; have NB522_516 := ngt BK516 hg; replace BK516 := bkz BK516 hb; clear hb hbox hg; have hnb61 := NB522_509.out; have hnc61 := NB509_522.out; have hnb62 := NB522_510.out; have hnc62 := NB510_522.out; have hnb63 := NB522_516.out; have hnc63 := NB516_522.out; obtain ⟨hcz64_0, hcz64_1, hcz64_2, hcz64_3, hfz64_0, hfz64_1, hfz64_2, hfz64_3⟩ := bq4 BK522) | ((with_reducible refine gtC (f := 12) rfl ?_); refine clz Tryd.func12 (some 61) #[.slice A0 l0.length c0] ?_; (with_reducible refine (spec_DrawMoveSlope.calls k _ _ l0 t523 t524 t525 t526 t527 t528 _ ?side1 ?side2 A7.out).mono ?_); (case side1 => exact Kd.C_below HR0.out bw_31); (case side2 => exact HC0.out); rintro e w65 ⟨rfl, hb⟩; refine ⟨_, rfl, ?_⟩; replace BK509 := Az.mk (bkB (g := gb509) (o := .cells #[.int .i64 t501, .int .i64 t502, .int .i64 t503, .int .i64 t504] 25 (0, 0)) bkv hb); replace BK510 := Az.mk (bkB (g := gb510) (o := .cells #[.int .i64 t505, .int .i64 t506, .int .i64 t507, .int .i64 t508] 25 (0, 0)) bkv hb); replace BK516 := Az.mk (bkB (g := gb516) (o := .cells #[.int .i64 t511, .int .i64 t512, .int .i64 t513, .int .i64 t514] 25 (0, 0)) bkv hb); replace BK522 := Az.mk (bkB (g := gb522) (o := .cells #[.int .i64 t517, .int .i64 t518, .int .i64 t519, .int .i64 t520] 25 (0, 0)) bkv hb); replace HB := Az.mk (bwT bw_31 hb); (try clear hb)) | ((with_reducible refine gtD (N := 9) rfl ?_); (try (refine gate_guard (by rfl) ?_; dsimp only)); refine bx (N := 9) (cs := #[.int .i64 0, .int .i64 0, .int .i64 0, .int .i64 0]) (t := 25) ?_; intro gb529 hg w66 hbox hb; have BK529 := Az.mk (hbox); have GW529 := gwz hg bw_31; have GE529 := gwz hg bw_31; replace HB := Az.mk (bwT bw_31 hb); have NB509_529 := nlt BK509 hg; have NB529_509 := ngt BK509 hg; replace BK509 := bkz BK509 hb; have NB510_529 := nlt BK510 hg; have NB529_510 := ngt BK510 hg; replace BK510 := bkz BK510 hb; have NB516_529 := nlt BK516 hg; have NB529_516 := ngt BK516 hg; replace BK516 := bkz BK516 hb; have NB522_529 := nlt BK522 hg; have NB529_522 := ngt BK522 hg; replace BK522 := bkz BK522 hb; clear hb hbox hg) | ((with_reducible refine gtD (N := 10) rfl ?_); (try (refine gate_guard (by rfl) ?_; dsimp only)); refine bx (N := 10) (cs := #[.int .i64 0, .int .i64 0]) (t := 35) ?_; intro gb530 hg w67 hbox hb; have BK530 := Az.mk (hbox); have GW530 := gwz hg bw_31; have GE530 := gwz hg bw_31; replace HB := Az.mk (bwT bw_31 hb); have NB509_530 := nlt BK509 hg; have NB530_509 := ngt BK509 hg; replace BK509 := bkz BK509 hb; have NB510_530 := nlt BK510 hg; have NB530_510 := ngt BK510 hg; replace BK510 := bkz BK510 hb; have NB516_530 := nlt BK516 hg; have NB530_516 := ngt BK516 hg; replace BK516 := bkz BK516 hb; have NB522_530 := nlt BK522 hg; have NB530_522 := ngt BK522 hg; replace BK522 := bkz BK522 hb; have NB529_530 := nlt BK529 hg; have NB530_529 := ngt BK529 hg; replace BK529 := bkz BK529 hb; clear hb hbox hg; have hnb68 := NB529_509.out; have hnc68 := NB509_529.out; have hnb69 := NB529_510.out; have hnc69 := NB510_529.out; have hnb70 := NB529_516.out; have hnc70 := NB516_529.out; have hnb71 := NB529_522.out; have hnc71 := NB522_529.out; have hnb72 := NB529_530.out; have hnc72 := NB530_529.out; obtain ⟨hcz73_0, hcz73_1, hcz73_2, hcz73_3, hfz73_0, hfz73_1, hfz73_2, hfz73_3⟩ := bq4 BK529; have hnb74 := NB530_509.out; have hnc74 := NB509_530.out; have hnb75 := NB530_510.out; have hnc75 := NB510_530.out; have hnb76 := NB530_516.out; have hnc76 := NB516_530.out; have hnb77 := NB530_522.out; have hnc77 := NB522_530.out; obtain ⟨hcz78_0, hcz78_1, hfz78_0, hfz78_1⟩ := bq2 BK530) | ((with_reducible refine gtC (f := 13) rfl ?_); refine clz Tryd.func13 (some 67) #[.agg #[.int .i64 t523, .int .i64 t524, .int .i64 t525, .int .i64 t526], .agg #[.int .i64 t527, .int .i64 t528]] ?_; (with_reducible refine (impl_MoveSlope.calls k t523 t524 t525 t526 t527 t528 t531 t532 t533 _ A8.out).mono ?_); rintro e w79 ⟨rfl, hb⟩; refine ⟨_, rfl, ?_⟩; replace BK509 := Az.mk (bkB (g := gb509) (o := .cells #[.int .i64 t501, .int .i64 t502, .int .i64 t503, .int .i64 t504] 25 (0, 0)) bkv hb); replace BK510 := Az.mk (bkB (g := gb510) (o := .cells #[.int .i64 t505, .int .i64 t506, .int .i64 t507, .int .i64 t508] 25 (0, 0)) bkv hb); replace BK516 := Az.mk (bkB (g := gb516) (o := .cells #[.int .i64 t511, .int .i64 t512, .int .i64 t513, .int .i64 t514] 25 (0, 0)) bkv hb); replace BK522 := Az.mk (bkB (g := gb522) (o := .cells #[.int .i64 t517, .int .i64 t518, .int .i64 t519, .int .i64 t520] 25 (0, 0)) bkv hb); replace BK529 := Az.mk (bkB (g := gb529) (o := .cells #[.int .i64 t523, .int .i64 t524, .int .i64 t525, .int .i64 t526] 25 (0, 0)) bkv hb); replace BK530 := Az.mk (bkB (g := gb530) (o := .cells #[.int .i64 t527, .int .i64 t528] 35 (0, 0)) bkv hb); replace HB := Az.mk (bwT bw_31 hb); (try clear hb)) | ((with_reducible refine gtD (N := 11) rfl ?_); (try (refine gate_guard (by rfl) ?_; dsimp only)); refine bx (N := 11) (cs := #[.int .i64 0, .int .i64 0]) (t := 35) ?_; intro gb534 hg w80 hbox hb; have BK534 := Az.mk (hbox); have GW534 := gwz hg bw_31; have GE534 := gwz hg bw_31; replace HB := Az.mk (bwT bw_31 hb); have NB509_534 := nlt BK509 hg; have NB534_509 := ngt BK509 hg; replace BK509 := bkz BK509 hb; have NB510_534 := nlt BK510 hg; have NB534_510 := ngt BK510 hg; replace BK510 := bkz BK510 hb; have NB516_534 := nlt BK516 hg; have NB534_516 := ngt BK516 hg; replace BK516 := bkz BK516 hb; have NB522_534 := nlt BK522 hg; have NB534_522 := ngt BK522 hg; replace BK522 := bkz BK522 hb; have NB529_534 := nlt BK529 hg; have NB534_529 := ngt BK529 hg; replace BK529 := bkz BK529 hb; have NB530_534 := nlt BK530 hg; have NB534_530 := ngt BK530 hg; replace BK530 := bkz BK530 hb; clear hb hbox hg; have hnb81 := NB534_509.out; have hnc81 := NB509_534.out; have hnb82 := NB534_510.out; have hnc82 := NB510_534.out; have hnb83 := NB534_516.out; have hnc83 := NB516_534.out; have hnb84 := NB534_522.out; have hnc84 := NB522_534.out; have hnb85 := NB534_529.out; have hnc85 := NB529_534.out; have hnb86 := NB534_530.out; have hnc86 := NB530_534.out; obtain ⟨hcz87_0, hcz87_1, hfz87_0, hfz87_1⟩ := bq2 BK534; obtain ⟨hcz88_0, hcz88_1, hcz88_2, hcz88_3, hfz88_0, hfz88_1, hfz88_2, hfz88_3⟩ := bq4 BK529; obtain ⟨hcz89_0, hcz89_1, hfz89_0, hfz89_1⟩ := bq2 BK530) | ((with_reducible refine gtC (f := 14) rfl ?_); refine clz Tryd.func14 (some 73) #[.agg #[.int .i64 t523, .int .i64 t524, .int .i64 t525, .int .i64 t526], .agg #[.int .i64 t527, .int .i64 t528]] ?_; (with_reducible refine (spec_MoveSlope.calls k t523 t524 t525 t526 t527 t528 t535 t536 t537 _ A9.out).mono ?_); rintro e w90 ⟨rfl, hb⟩; refine ⟨_, rfl, ?_⟩; replace BK509 := Az.mk (bkB (g := gb509) (o := .cells #[.int .i64 t501, .int .i64 t502, .int .i64 t503, .int .i64 t504] 25 (0, 0)) bkv hb); replace BK510 := Az.mk (bkB (g := gb510) (o := .cells #[.int .i64 t505, .int .i64 t506, .int .i64 t507, .int .i64 t508] 25 (0, 0)) bkv hb); replace BK516 := Az.mk (bkB (g := gb516) (o := .cells #[.int .i64 t511, .int .i64 t512, .int .i64 t513, .int .i64 t514] 25 (0, 0)) bkv hb); replace BK522 := Az.mk (bkB (g := gb522) (o := .cells #[.int .i64 t517, .int .i64 t518, .int .i64 t519, .int .i64 t520] 25 (0, 0)) bkv hb); replace BK529 := Az.mk (bkB (g := gb529) (o := .cells #[.int .i64 t523, .int .i64 t524, .int .i64 t525, .int .i64 t526] 25 (0, 0)) bkv hb); replace BK530 := Az.mk (bkB (g := gb530) (o := .cells #[.int .i64 t527, .int .i64 t528] 35 (0, 0)) bkv hb); replace BK534 := Az.mk (bkB (g := gb534) (o := .cells #[.int .i64 t531, .int .i64 t532] 35 (0, 0)) bkv hb); replace HB := Az.mk (bwT bw_31 hb); (try clear hb)) | ((with_reducible refine gtD (N := 13) rfl ?_); (try (refine gate_guard (by rfl) ?_; dsimp only)); refine bx (N := 13) (cs := #[.int .i64 0, .int .i64 0]) (t := 35) ?_; intro gb538 hg w91 hbox hb; have BK538 := Az.mk (hbox); have GW538 := gwz hg bw_31; have GE538 := gwz hg bw_31; replace HB := Az.mk (bwT bw_31 hb); have NB509_538 := nlt BK509 hg; have NB538_509 := ngt BK509 hg; replace BK509 := bkz BK509 hb; have NB510_538 := nlt BK510 hg; have NB538_510 := ngt BK510 hg; replace BK510 := bkz BK510 hb; have NB516_538 := nlt BK516 hg; have NB538_516 := ngt BK516 hg; replace BK516 := bkz BK516 hb; have NB522_538 := nlt BK522 hg; have NB538_522 := ngt BK522 hg; replace BK522 := bkz BK522 hb; have NB529_538 := nlt BK529 hg; have NB538_529 := ngt BK529 hg; replace BK529 := bkz BK529 hb; have NB530_538 := nlt BK530 hg; have NB538_530 := ngt BK530 hg; replace BK530 := bkz BK530 hb; have NB534_538 := nlt BK534 hg; have NB538_534 := ngt BK534 hg; replace BK534 := bkz BK534 hb; clear hb hbox hg; have hnb92 := NB538_509.out; have hnc92 := NB509_538.out; have hnb93 := NB538_510.out; have hnc93 := NB510_538.out; have hnb94 := NB538_516.out; have hnc94 := NB516_538.out; have hnb95 := NB538_522.out; have hnc95 := NB522_538.out; have hnb96 := NB538_529.out; have hnc96 := NB529_538.out; have hnb97 := NB538_530.out; have hnc97 := NB530_538.out; have hnb98 := NB538_534.out; have hnc98 := NB534_538.out; obtain ⟨hcz99_0, hcz99_1, hfz99_0, hfz99_1⟩ := bq2 BK538) | ((with_reducible refine gtC (f := 15) rfl ?_); refine clz Tryd.func15 (some 77) #[.slice A0 l0.length c0] ?_; (with_reducible refine (spec_DrawTurnsOf.calls k _ _ l0 t539 _ ?side1 ?side2 A10.out).mono ?_); (case side1 => exact Kd.C_below HR0.out bw_31); (case side2 => exact HC0.out); rintro e w100 ⟨rfl, hb⟩; refine ⟨_, rfl, ?_⟩; replace BK509 := Az.mk (bkB (g := gb509) (o := .cells #[.int .i64 t501, .int .i64 t502, .int .i64 t503, .int .i64 t504] 25 (0, 0)) bkv hb); replace BK510 := Az.mk (bkB (g := gb510) (o := .cells #[.int .i64 t505, .int .i64 t506, .int .i64 t507, .int .i64 t508] 25 (0, 0)) bkv hb); replace BK516 := Az.mk (bkB (g := gb516) (o := .cells #[.int .i64 t511, .int .i64 t512, .int .i64 t513, .int .i64 t514] 25 (0, 0)) bkv hb); replace BK522 := Az.mk (bkB (g := gb522) (o := .cells #[.int .i64 t517, .int .i64 t518, .int .i64 t519, .int .i64 t520] 25 (0, 0)) bkv hb); replace BK529 := Az.mk (bkB (g := gb529) (o := .cells #[.int .i64 t523, .int .i64 t524, .int .i64 t525, .int .i64 t526] 25 (0, 0)) bkv hb); replace BK530 := Az.mk (bkB (g := gb530) (o := .cells #[.int .i64 t527, .int .i64 t528] 35 (0, 0)) bkv hb); replace BK534 := Az.mk (bkB (g := gb534) (o := .cells #[.int .i64 t531, .int .i64 t532] 35 (0, 0)) bkv hb); replace BK538 := Az.mk (bkB (g := gb538) (o := .cells #[.int .i64 t535, .int .i64 t536] 35 (0, 0)) bkv hb); replace HB := Az.mk (bwT bw_31 hb); (try clear hb)) | ((with_reducible refine gtC (f := 16) rfl ?_); refine clz Tryd.func16 (some 80) #[.string t539] ?_; (with_reducible refine (impl_TurnsOf.calls k t539 t540 t541 t542 t543 t544 _ A11.out).mono ?_); rintro e w101 ⟨rfl, hb⟩; refine ⟨_, rfl, ?_⟩; replace BK509 := bkz BK509 hb; replace BK510 := bkz BK510 hb; replace BK516 := bkz BK516 hb; replace BK522 := bkz BK522 hb; replace BK529 := bkz BK529 hb; replace BK530 := bkz BK530 hb; replace BK534 := bkz BK534 hb; replace BK538 := bkz BK538 hb; replace HB := Az.mk (bwT bw_31 hb); (try clear hb)) | ((with_reducible refine gtD (N := 16) rfl ?_); (try (refine gate_guard (by rfl) ?_; dsimp only)); refine bx (N := 16) (cs := #[.int .i64 0, .int .i64 0, .int .i64 0, .int .i64 0]) (t := 25) ?_; intro gb545 hg w102 hbox hb; have BK545 := Az.mk (hbox); have GW545 := gwz hg bw_31; have GE545 := gwz hg bw_31; replace HB := Az.mk (bwT bw_31 hb); have NB509_545 := nlt BK509 hg; have NB545_509 := ngt BK509 hg; replace BK509 := bkz BK509 hb; have NB510_545 := nlt BK510 hg; have NB545_510 := ngt BK510 hg; replace BK510 := bkz BK510 hb; have NB516_545 := nlt BK516 hg; have NB545_516 := ngt BK516 hg; replace BK516 := bkz BK516 hb; have NB522_545 := nlt BK522 hg; have NB545_522 := ngt BK522 hg; replace BK522 := bkz BK522 hb; have NB529_545 := nlt BK529 hg; have NB545_529 := ngt BK529 hg; replace BK529 := bkz BK529 hb; have NB530_545 := nlt BK530 hg; have NB545_530 := ngt BK530 hg; replace BK530 := bkz BK530 hb; have NB534_545 := nlt BK534 hg; have NB545_534 := ngt BK534 hg; replace BK534 := bkz BK534 hb; have NB538_545 := nlt BK538 hg; have NB545_538 := ngt BK538 hg; replace BK538 := bkz BK538 hb; clear hb hbox hg; have hnb103 := NB545_509.out; have hnc103 := NB509_545.out; have hnb104 := NB545_510.out; have hnc104 := NB510_545.out; have hnb105 := NB545_516.out; have hnc105 := NB516_545.out; have hnb106 := NB545_522.out; have hnc106 := NB522_545.out; have hnb107 := NB545_529.out; have hnc107 := NB529_545.out; have hnb108 := NB545_530.out; have hnc108 := NB530_545.out; have hnb109 := NB545_534.out; have hnc109 := NB534_545.out; have hnb110 := NB545_538.out; have hnc110 := NB538_545.out; obtain ⟨hcz111_0, hcz111_1, hcz111_2, hcz111_3, hfz111_0, hfz111_1, hfz111_2, hfz111_3⟩ := bq4 BK545) | ((with_reducible refine gtC (f := 17) rfl ?_); refine clz Tryd.func17 (some 85) #[.string t539] ?_; (with_reducible refine (spec_TurnsOf.calls k t539 t546 t547 t548 t549 t550 _ A12.out).mono ?_); rintro e w112 ⟨rfl, hb⟩; refine ⟨_, rfl, ?_⟩; replace BK509 := Az.mk (bkB (g := gb509) (o := .cells #[.int .i64 t501, .int .i64 t502, .int .i64 t503, .int .i64 t504] 25 (0, 0)) bkv hb); replace BK510 := Az.mk (bkB (g := gb510) (o := .cells #[.int .i64 t505, .int .i64 t506, .int .i64 t507, .int .i64 t508] 25 (0, 0)) bkv hb); replace BK516 := Az.mk (bkB (g := gb516) (o := .cells #[.int .i64 t511, .int .i64 t512, .int .i64 t513, .int .i64 t514] 25 (0, 0)) bkv hb); replace BK522 := Az.mk (bkB (g := gb522) (o := .cells #[.int .i64 t517, .int .i64 t518, .int .i64 t519, .int .i64 t520] 25 (0, 0)) bkv hb); replace BK529 := Az.mk (bkB (g := gb529) (o := .cells #[.int .i64 t523, .int .i64 t524, .int .i64 t525, .int .i64 t526] 25 (0, 0)) bkv hb); replace BK530 := Az.mk (bkB (g := gb530) (o := .cells #[.int .i64 t527, .int .i64 t528] 35 (0, 0)) bkv hb); replace BK534 := Az.mk (bkB (g := gb534) (o := .cells #[.int .i64 t531, .int .i64 t532] 35 (0, 0)) bkv hb); replace BK538 := Az.mk (bkB (g := gb538) (o := .cells #[.int .i64 t535, .int .i64 t536] 35 (0, 0)) bkv hb); replace BK545 := Az.mk (bkB (g := gb545) (o := .cells #[.int .i64 t540, .int .i64 t541, .int .i64 t542, .int .i64 t543] 25 (0, 0)) bkv hb); replace HB := Az.mk (bwT bw_31 hb); (try clear hb)) | ((with_reducible refine gtD (N := 18) rfl ?_); (try (refine gate_guard (by rfl) ?_; dsimp only)); refine bx (N := 18) (cs := #[.int .i64 0, .int .i64 0, .int .i64 0, .int .i64 0]) (t := 25) ?_; intro gb551 hg w113 hbox hb; have BK551 := Az.mk (hbox); have GW551 := gwz hg bw_31; have GE551 := gwz hg bw_31; replace HB := Az.mk (bwT bw_31 hb); have NB509_551 := nlt BK509 hg; have NB551_509 := ngt BK509 hg; replace BK509 := bkz BK509 hb; have NB510_551 := nlt BK510 hg; have NB551_510 := ngt BK510 hg; replace BK510 := bkz BK510 hb; have NB516_551 := nlt BK516 hg; have NB551_516 := ngt BK516 hg; replace BK516 := bkz BK516 hb; have NB522_551 := nlt BK522 hg; have NB551_522 := ngt BK522 hg; replace BK522 := bkz BK522 hb; have NB529_551 := nlt BK529 hg; have NB551_529 := ngt BK529 hg; replace BK529 := bkz BK529 hb; have NB530_551 := nlt BK530 hg; have NB551_530 := ngt BK530 hg; replace BK530 := bkz BK530 hb; have NB534_551 := nlt BK534 hg; have NB551_534 := ngt BK534 hg; replace BK534 := bkz BK534 hb; have NB538_551 := nlt BK538 hg; have NB551_538 := ngt BK538 hg; replace BK538 := bkz BK538 hb; have NB545_551 := nlt BK545 hg; have NB551_545 := ngt BK545 hg; replace BK545 := bkz BK545 hb; clear hb hbox hg; have hnb114 := NB551_509.out; have hnc114 := NB509_551.out; have hnb115 := NB551_510.out; have hnc115 := NB510_551.out; have hnb116 := NB551_516.out; have hnc116 := NB516_551.out; have hnb117 := NB551_522.out; have hnc117 := NB522_551.out; have hnb118 := NB551_529.out; have hnc118 := NB529_551.out; have hnb119 := NB551_530.out; have hnc119 := NB530_551.out; have hnb120 := NB551_534.out; have hnc120 := NB534_551.out; have hnb121 := NB551_538.out; have hnc121 := NB538_551.out; have hnb122 := NB551_545.out; have hnc122 := NB545_551.out; obtain ⟨hcz123_0, hcz123_1, hcz123_2, hcz123_3, hfz123_0, hfz123_1, hfz123_2, hfz123_3⟩ := bq4 BK551) | ((with_reducible refine gtC (f := 18) rfl ?_); refine clz Tryd.func18 (some 89) #[.slice A0 l0.length c0] ?_; (with_reducible refine (spec_DrawTurnsTo.calls k _ _ l0 t552 t553 _ ?side1 ?side2 A13.out).mono ?_); (case side1 => exact Kd.C_below HR0.out bw_31); (case side2 => exact HC0.out); rintro e w124 ⟨rfl, hb⟩; refine ⟨_, rfl, ?_⟩; replace BK509 := Az.mk (bkB (g := gb509) (o := .cells #[.int .i64 t501, .int .i64 t502, .int .i64 t503, .int .i64 t504] 25 (0, 0)) bkv hb); replace BK510 := Az.mk (bkB (g := gb510) (o := .cells #[.int .i64 t505, .int .i64 t506, .int .i64 t507, .int .i64 t508] 25 (0, 0)) bkv hb); replace BK516 := Az.mk (bkB (g := gb516) (o := .cells #[.int .i64 t511, .int .i64 t512, .int .i64 t513, .int .i64 t514] 25 (0, 0)) bkv hb); replace BK522 := Az.mk (bkB (g := gb522) (o := .cells #[.int .i64 t517, .int .i64 t518, .int .i64 t519, .int .i64 t520] 25 (0, 0)) bkv hb); replace BK529 := Az.mk (bkB (g := gb529) (o := .cells #[.int .i64 t523, .int .i64 t524, .int .i64 t525, .int .i64 t526] 25 (0, 0)) bkv hb); replace BK530 := Az.mk (bkB (g := gb530) (o := .cells #[.int .i64 t527, .int .i64 t528] 35 (0, 0)) bkv hb); replace BK534 := Az.mk (bkB (g := gb534) (o := .cells #[.int .i64 t531, .int .i64 t532] 35 (0, 0)) bkv hb); replace BK538 := Az.mk (bkB (g := gb538) (o := .cells #[.int .i64 t535, .int .i64 t536] 35 (0, 0)) bkv hb); replace BK545 := Az.mk (bkB (g := gb545) (o := .cells #[.int .i64 t540, .int .i64 t541, .int .i64 t542, .int .i64 t543] 25 (0, 0)) bkv hb); replace BK551 := Az.mk (bkB (g := gb551) (o := .cells #[.int .i64 t546, .int .i64 t547, .int .i64 t548, .int .i64 t549] 25 (0, 0)) bkv hb); replace HB := Az.mk (bwT bw_31 hb); (try clear hb)) | ((with_reducible refine gtD (N := 20) rfl ?_); (try (refine gate_guard (by rfl) ?_; dsimp only)); refine bx (N := 20) (cs := #[.int .i64 0, .int .i64 0]) (t := 35) ?_; intro gb554 hg w125 hbox hb; have BK554 := Az.mk (hbox); have GW554 := gwz hg bw_31; have GE554 := gwz hg bw_31; replace HB := Az.mk (bwT bw_31 hb); have NB509_554 := nlt BK509 hg; have NB554_509 := ngt BK509 hg; replace BK509 := bkz BK509 hb; have NB510_554 := nlt BK510 hg; have NB554_510 := ngt BK510 hg; replace BK510 := bkz BK510 hb; have NB516_554 := nlt BK516 hg; have NB554_516 := ngt BK516 hg; replace BK516 := bkz BK516 hb; have NB522_554 := nlt BK522 hg; have NB554_522 := ngt BK522 hg; replace BK522 := bkz BK522 hb; have NB529_554 := nlt BK529 hg; have NB554_529 := ngt BK529 hg; replace BK529 := bkz BK529 hb; have NB530_554 := nlt BK530 hg; have NB554_530 := ngt BK530 hg; replace BK530 := bkz BK530 hb; have NB534_554 := nlt BK534 hg; have NB554_534 := ngt BK534 hg; replace BK534 := bkz BK534 hb; have NB538_554 := nlt BK538 hg; have NB554_538 := ngt BK538 hg; replace BK538 := bkz BK538 hb; have NB545_554 := nlt BK545 hg; have NB554_545 := ngt BK545 hg; replace BK545 := bkz BK545 hb; have NB551_554 := nlt BK551 hg; have NB554_551 := ngt BK551 hg; replace BK551 := bkz BK551 hb; clear hb hbox hg; have hnb126 := NB554_509.out; have hnc126 := NB509_554.out; have hnb127 := NB554_510.out; have hnc127 := NB510_554.out; have hnb128 := NB554_516.out; have hnc128 := NB516_554.out; have hnb129 := NB554_522.out; have hnc129 := NB522_554.out; have hnb130 := NB554_529.out; have hnc130 := NB529_554.out; have hnb131 := NB554_530.out; have hnc131 := NB530_554.out; have hnb132 := NB554_534.out; have hnc132 := NB534_554.out; have hnb133 := NB554_538.out; have hnc133 := NB538_554.out; have hnb134 := NB554_545.out; have hnc134 := NB545_554.out; have hnb135 := NB554_551.out; have hnc135 := NB551_554.out; obtain ⟨hcz136_0, hcz136_1, hfz136_0, hfz136_1⟩ := bq2 BK554) | ((with_reducible refine gtC (f := 19) rfl ?_); refine clz Tryd.func19 (some 91) #[.agg #[.int .i64 t552, .int .i64 t553]] ?_; (with_reducible refine (impl_TurnsTo.calls k t552 t553 t555 _ A14.out).mono ?_); rintro e w137 ⟨rfl, hb⟩; refine ⟨_, rfl, ?_⟩; replace BK509 := Az.mk (bkB (g := gb509) (o := .cells #[.int .i64 t501, .int .i64 t502, .int .i64 t503, .int .i64 t504] 25 (0, 0)) bkv hb); replace BK510 := Az.mk (bkB (g := gb510) (o := .cells #[.int .i64 t505, .int .i64 t506, .int .i64 t507, .int .i64 t508] 25 (0, 0)) bkv hb); replace BK516 := Az.mk (bkB (g := gb516) (o := .cells #[.int .i64 t511, .int .i64 t512, .int .i64 t513, .int .i64 t514] 25 (0, 0)) bkv hb); replace BK522 := Az.mk (bkB (g := gb522) (o := .cells #[.int .i64 t517, .int .i64 t518, .int .i64 t519, .int .i64 t520] 25 (0, 0)) bkv hb); replace BK529 := Az.mk (bkB (g := gb529) (o := .cells #[.int .i64 t523, .int .i64 t524, .int .i64 t525, .int .i64 t526] 25 (0, 0)) bkv hb); replace BK530 := Az.mk (bkB (g := gb530) (o := .cells #[.int .i64 t527, .int .i64 t528] 35 (0, 0)) bkv hb); replace BK534 := Az.mk (bkB (g := gb534) (o := .cells #[.int .i64 t531, .int .i64 t532] 35 (0, 0)) bkv hb); replace BK538 := Az.mk (bkB (g := gb538) (o := .cells #[.int .i64 t535, .int .i64 t536] 35 (0, 0)) bkv hb); replace BK545 := Az.mk (bkB (g := gb545) (o := .cells #[.int .i64 t540, .int .i64 t541, .int .i64 t542, .int .i64 t543] 25 (0, 0)) bkv hb); replace BK551 := Az.mk (bkB (g := gb551) (o := .cells #[.int .i64 t546, .int .i64 t547, .int .i64 t548, .int .i64 t549] 25 (0, 0)) bkv hb); replace BK554 := Az.mk (bkB (g := gb554) (o := .cells #[.int .i64 t552, .int .i64 t553] 35 (0, 0)) bkv hb); replace HB := Az.mk (bwT bw_31 hb); (try clear hb)))
 replace BK509 := Az.mk (bkD BK509.out); replace BK510 := Az.mk (bkD BK510.out); replace BK516 := Az.mk (bkD BK516.out); replace BK522 := Az.mk (bkD BK522.out); replace BK529 := Az.mk (bkD BK529.out); replace BK530 := Az.mk (bkD BK530.out); replace BK534 := Az.mk (bkD BK534.out); replace BK538 := Az.mk (bkD BK538.out); replace BK545 := Az.mk (bkD BK545.out); replace BK551 := Az.mk (bkD BK551.out); replace BK554 := Az.mk (bkD BK554.out); replace HB := Az.mk (bwD HB.out)
 refine start_ (n := 84) (S := fun w' => w'.cell? ⟨gb516, 0, none⟩ = some (.int .i64 t511) ∧ w'.cell? ⟨gb516, 1, none⟩ = some (.int .i64 t512) ∧ w'.cell? ⟨gb516, 2, none⟩ = some (.int .i64 t513) ∧ w'.cell? ⟨gb516, 3, none⟩ = some (.int .i64 t514) ∧ w'.cell? ⟨gb522, 0, none⟩ = some (.int .i64 t517) ∧ w'.cell? ⟨gb522, 1, none⟩ = some (.int .i64 t518) ∧ w'.cell? ⟨gb522, 2, none⟩ = some (.int .i64 t519) ∧ w'.cell? ⟨gb522, 3, none⟩ = some (.int .i64 t520) ∧ w'.cell? ⟨gb534, 0, none⟩ = some (.int .i64 t531) ∧ w'.cell? ⟨gb534, 1, none⟩ = some (.int .i64 t532) ∧ w'.cell? ⟨gb538, 0, none⟩ = some (.int .i64 t535) ∧ w'.cell? ⟨gb538, 1, none⟩ = some (.int .i64 t536) ∧ w'.cell? ⟨gb545, 0, none⟩ = some (.int .i64 t540) ∧ w'.cell? ⟨gb545, 1, none⟩ = some (.int .i64 t541) ∧ w'.cell? ⟨gb545, 2, none⟩ = some (.int .i64 t542) ∧ w'.cell? ⟨gb545, 3, none⟩ = some (.int .i64 t543) ∧ w'.cell? ⟨gb551, 0, none⟩ = some (.int .i64 t546) ∧ w'.cell? ⟨gb551, 1, none⟩ = some (.int .i64 t547) ∧ w'.cell? ⟨gb551, 2, none⟩ = some (.int .i64 t548) ∧ w'.cell? ⟨gb551, 3, none⟩ = some (.int .i64 t549) ∧ w'.cell? ⟨gb554, 0, none⟩ = some (.int .i64 t552) ∧ w'.cell? ⟨gb554, 1, none⟩ = some (.int .i64 t553) ∧ w'.cell? ⟨gb509, 0, none⟩ = some (.int .i64 t501) ∧ w'.cell? ⟨gb509, 1, none⟩ = some (.int .i64 t502) ∧ w'.cell? ⟨gb509, 2, none⟩ = some (.int .i64 t503) ∧ w'.cell? ⟨gb509, 3, none⟩ = some (.int .i64 t504)) (ds := []) #[F,F,F,F,F,F,F,F,F,F,F,F,F,F,F,F,F,F,F,F,F,F,F,F,F,F,F,F,F,F,F,F,F,F,F,F,F,F,F,F,F,F,F,F,F,F,F,F,F,F,F,F,F,F,F,F,F,F,F,F,F,F,F,F,F,F,F,F,F,F,F,F,F,F,F,F,F,F,F,F,F,F,F,F] z31_0 rfl rfl csn_ (fun hHeld => ?_); refine with_tabW laws_FnMatrices.tab14 laws_FnMatrices.bits14 (fun HT_ HW_ => ?_)
 generalize w137.drew = w138 at BK509 BK510 BK516 BK522 BK529 BK530 BK534 BK538 BK545 BK551 BK554 HB hHeld ⊢
 refine pu (i := 0) (N := some 92) #[T,F,F,F,F,F,F,F,F,F,F,F,F,F,F,F,F,F,F,F,F,F,F,F,F,F,F,F,F,F,F,F,F,F,F,F,F,F,F,F,F,F,F,F,F,F,F,F,F,F,F,F,F,F,F,F,F,F,F,F,F,F,F,F,F,F,F,F,F,F,F,F,F,F,F,F,F,F,F,F,F,F,F,F] (any_of HT_.out z31_0) ?_
 refine pu (i := 1) (N := some 93) #[T,T,F,F,F,F,F,F,F,F,F,F,F,F,F,F,F,F,F,F,F,F,F,F,F,F,F,F,F,F,F,F,F,F,F,F,F,F,F,F,F,F,F,F,F,F,F,F,F,F,F,F,F,F,F,F,F,F,F,F,F,F,F,F,F,F,F,F,F,F,F,F,F,F,F,F,F,F,F,F,F,F,F,F] (any_of HT_.out z31_0) ?_
 refine pu (i := 2) (N := some 94) #[T,T,T,F,F,F,F,F,F,F,F,F,F,F,F,F,F,F,F,F,F,F,F,F,F,F,F,F,F,F,F,F,F,F,F,F,F,F,F,F,F,F,F,F,F,F,F,F,F,F,F,F,F,F,F,F,F,F,F,F,F,F,F,F,F,F,F,F,F,F,F,F,F,F,F,F,F,F,F,F,F,F,F,F] (any_of HT_.out z31_0) ?_
 refine pu (i := 3) (N := some 95) #[T,T,T,T,F,F,F,F,F,F,F,F,F,F,F,F,F,F,F,F,F,F,F,F,F,F,F,F,F,F,F,F,F,F,F,F,F,F,F,F,F,F,F,F,F,F,F,F,F,F,F,F,F,F,F,F,F,F,F,F,F,F,F,F,F,F,F,F,F,F,F,F,F,F,F,F,F,F,F,F,F,F,F,F] (any_of HT_.out z31_0) ?_
 refine take_ (i := 4) (N := some 96) (v := ?_) (a' := ?_) #[T,T,T,T,T,F,F,F,F,F,F,F,F,F,F,F,F,F,F,F,F,F,F,F,F,F,F,F,F,F,F,F,F,F,F,F,F,F,F,F,F,F,F,F,F,F,F,F,F,F,F,F,F,F,F,F,F,F,F,F,F,F,F,F,F,F,F,F,F,F,F,F,F,F,F,F,F,F,F,F,F,F,F,F] rfl rfl (take_ofW HT_.out HW_.out z31_0) (fun _ _ _ h => h) (Or.inl ⟨by rfl, ?_⟩) hHeld ?_ ?_
 rotate_left
 ·rintro w' ⟨s0, s1, s2, s3, s4, s5, s6, s7, s8, s9, s10, s11, s12, s13, s14, s15, s16, s17, s18, s19, s20, s21, s22, s23, s24, s25⟩
  go_simp
  with_reducible rfl
 rotate_left
 ·exact acq
 refine take_ (i := 5) (N := some 97) (v := ?_) (a' := ?_) #[T,T,T,T,T,T,F,F,F,F,F,F,F,F,F,F,F,F,F,F,F,F,F,F,F,F,F,F,F,F,F,F,F,F,F,F,F,F,F,F,F,F,F,F,F,F,F,F,F,F,F,F,F,F,F,F,F,F,F,F,F,F,F,F,F,F,F,F,F,F,F,F,F,F,F,F,F,F,F,F,F,F,F,F] rfl rfl (take_ofW HT_.out HW_.out z31_0) (fun _ _ _ h => h) (Or.inl ⟨by rfl, ?_⟩) hHeld ?_ ?_
 rotate_left
 ·rintro w' ⟨s0, s1, s2, s3, s4, s5, s6, s7, s8, s9, s10, s11, s12, s13, s14, s15, s16, s17, s18, s19, s20, s21, s22, s23, s24, s25⟩
  go_simp
  with_reducible rfl
 rotate_left
 ·exact acq
 refine pu (i := 6) (N := some 98) #[T,T,T,T,T,T,T,F,F,F,F,F,F,F,F,F,F,F,F,F,F,F,F,F,F,F,F,F,F,F,F,F,F,F,F,F,F,F,F,F,F,F,F,F,F,F,F,F,F,F,F,F,F,F,F,F,F,F,F,F,F,F,F,F,F,F,F,F,F,F,F,F,F,F,F,F,F,F,F,F,F,F,F,F] (any_of HT_.out z31_0) ?_
 refine pu (i := 7) (N := some 99) #[T,T,T,T,T,T,T,T,F,F,F,F,F,F,F,F,F,F,F,F,F,F,F,F,F,F,F,F,F,F,F,F,F,F,F,F,F,F,F,F,F,F,F,F,F,F,F,F,F,F,F,F,F,F,F,F,F,F,F,F,F,F,F,F,F,F,F,F,F,F,F,F,F,F,F,F,F,F,F,F,F,F,F,F] (any_of HT_.out z31_0) ?_
 refine pu (i := 8) (N := some 100) #[T,T,T,T,T,T,T,T,T,F,F,F,F,F,F,F,F,F,F,F,F,F,F,F,F,F,F,F,F,F,F,F,F,F,F,F,F,F,F,F,F,F,F,F,F,F,F,F,F,F,F,F,F,F,F,F,F,F,F,F,F,F,F,F,F,F,F,F,F,F,F,F,F,F,F,F,F,F,F,F,F,F,F,F] (any_of HT_.out z31_0) ?_
 refine pu (i := 9) (N := some 101) #[T,T,T,T,T,T,T,T,T,T,F,F,F,F,F,F,F,F,F,F,F,F,F,F,F,F,F,F,F,F,F,F,F,F,F,F,F,F,F,F,F,F,F,F,F,F,F,F,F,F,F,F,F,F,F,F,F,F,F,F,F,F,F,F,F,F,F,F,F,F,F,F,F,F,F,F,F,F,F,F,F,F,F,F] (any_of HT_.out z31_0) ?_
 refine pu (i := 10) (N := some 102) #[T,T,T,T,T,T,T,T,T,T,T,F,F,F,F,F,F,F,F,F,F,F,F,F,F,F,F,F,F,F,F,F,F,F,F,F,F,F,F,F,F,F,F,F,F,F,F,F,F,F,F,F,F,F,F,F,F,F,F,F,F,F,F,F,F,F,F,F,F,F,F,F,F,F,F,F,F,F,F,F,F,F,F,F] (any_of HT_.out z31_0) ?_
 refine pu (i := 11) (N := some 103) #[T,T,T,T,T,T,T,T,T,T,T,T,F,F,F,F,F,F,F,F,F,F,F,F,F,F,F,F,F,F,F,F,F,F,F,F,F,F,F,F,F,F,F,F,F,F,F,F,F,F,F,F,F,F,F,F,F,F,F,F,F,F,F,F,F,F,F,F,F,F,F,F,F,F,F,F,F,F,F,F,F,F,F,F] (any_of HT_.out z31_0) ?_
 refine pu (i := 12) (N := some 104) #[T,T,T,T,T,T,T,T,T,T,T,T,T,F,F,F,F,F,F,F,F,F,F,F,F,F,F,F,F,F,F,F,F,F,F,F,F,F,F,F,F,F,F,F,F,F,F,F,F,F,F,F,F,F,F,F,F,F,F,F,F,F,F,F,F,F,F,F,F,F,F,F,F,F,F,F,F,F,F,F,F,F,F,F] (any_of HT_.out z31_0) ?_
 refine pu (i := 13) (N := some 105) #[T,T,T,T,T,T,T,T,T,T,T,T,T,T,F,F,F,F,F,F,F,F,F,F,F,F,F,F,F,F,F,F,F,F,F,F,F,F,F,F,F,F,F,F,F,F,F,F,F,F,F,F,F,F,F,F,F,F,F,F,F,F,F,F,F,F,F,F,F,F,F,F,F,F,F,F,F,F,F,F,F,F,F,F] (any_of HT_.out z31_0) ?_
 refine take_ (i := 14) (N := some 106) (v := ?_) (a' := ?_) #[T,T,T,T,T,T,T,T,T,T,T,T,T,T,T,F,F,F,F,F,F,F,F,F,F,F,F,F,F,F,F,F,F,F,F,F,F,F,F,F,F,F,F,F,F,F,F,F,F,F,F,F,F,F,F,F,F,F,F,F,F,F,F,F,F,F,F,F,F,F,F,F,F,F,F,F,F,F,F,F,F,F,F,F] rfl rfl (take_ofW HT_.out HW_.out z31_0) (fun _ _ _ h => h) (Or.inl ⟨by rfl, ?_⟩) hHeld ?_ ?_
 rotate_left
 ·rintro w' ⟨s0, s1, s2, s3, s4, s5, s6, s7, s8, s9, s10, s11, s12, s13, s14, s15, s16, s17, s18, s19, s20, s21, s22, s23, s24, s25⟩
  go_simp
  with_reducible rfl
 rotate_left
 ·exact acq
 refine take_ (i := 15) (N := some 107) (v := ?_) (a' := ?_) #[T,T,T,T,T,T,T,T,T,T,T,T,T,T,T,T,F,F,F,F,F,F,F,F,F,F,F,F,F,F,F,F,F,F,F,F,F,F,F,F,F,F,F,F,F,F,F,F,F,F,F,F,F,F,F,F,F,F,F,F,F,F,F,F,F,F,F,F,F,F,F,F,F,F,F,F,F,F,F,F,F,F,F,F] rfl rfl (take_ofW HT_.out HW_.out z31_0) (fun _ _ _ h => h) (Or.inl ⟨by rfl, ?_⟩) hHeld ?_ ?_
 rotate_left
 ·rintro w' ⟨s0, s1, s2, s3, s4, s5, s6, s7, s8, s9, s10, s11, s12, s13, s14, s15, s16, s17, s18, s19, s20, s21, s22, s23, s24, s25⟩
  go_simp
  with_reducible rfl
 rotate_left
 ·exact acq
 refine pu (i := 16) (N := some 108) #[T,T,T,T,T,T,T,T,T,T,T,T,T,T,T,T,T,F,F,F,F,F,F,F,F,F,F,F,F,F,F,F,F,F,F,F,F,F,F,F,F,F,F,F,F,F,F,F,F,F,F,F,F,F,F,F,F,F,F,F,F,F,F,F,F,F,F,F,F,F,F,F,F,F,F,F,F,F,F,F,F,F,F,F] (any_of HT_.out z31_0) ?_
 refine pu (i := 17) (N := some 109) #[T,T,T,T,T,T,T,T,T,T,T,T,T,T,T,T,T,T,F,F,F,F,F,F,F,F,F,F,F,F,F,F,F,F,F,F,F,F,F,F,F,F,F,F,F,F,F,F,F,F,F,F,F,F,F,F,F,F,F,F,F,F,F,F,F,F,F,F,F,F,F,F,F,F,F,F,F,F,F,F,F,F,F,F] (any_of HT_.out z31_0) ?_
 refine pu (i := 18) (N := some 110) #[T,T,T,T,T,T,T,T,T,T,T,T,T,T,T,T,T,T,T,F,F,F,F,F,F,F,F,F,F,F,F,F,F,F,F,F,F,F,F,F,F,F,F,F,F,F,F,F,F,F,F,F,F,F,F,F,F,F,F,F,F,F,F,F,F,F,F,F,F,F,F,F,F,F,F,F,F,F,F,F,F,F,F,F] (any_of HT_.out z31_0) ?_
 refine pu (i := 19) (N := some 111) #[T,T,T,T,T,T,T,T,T,T,T,T,T,T,T,T,T,T,T,T,F,F,F,F,F,F,F,F,F,F,F,F,F,F,F,F,F,F,F,F,F,F,F,F,F,F,F,F,F,F,F,F,F,F,F,F,F,F,F,F,F,F,F,F,F,F,F,F,F,F,F,F,F,F,F,F,F,F,F,F,F,F,F,F] (any_of HT_.out z31_0) ?_
 refine pu (i := 20) (N := some 112) #[T,T,T,T,T,T,T,T,T,T,T,T,T,T,T,T,T,T,T,T,T,F,F,F,F,F,F,F,F,F,F,F,F,F,F,F,F,F,F,F,F,F,F,F,F,F,F,F,F,F,F,F,F,F,F,F,F,F,F,F,F,F,F,F,F,F,F,F,F,F,F,F,F,F,F,F,F,F,F,F,F,F,F,F] (any_of HT_.out z31_0) ?_
 refine pu (i := 21) (N := some 113) #[T,T,T,T,T,T,T,T,T,T,T,T,T,T,T,T,T,T,T,T,T,T,F,F,F,F,F,F,F,F,F,F,F,F,F,F,F,F,F,F,F,F,F,F,F,F,F,F,F,F,F,F,F,F,F,F,F,F,F,F,F,F,F,F,F,F,F,F,F,F,F,F,F,F,F,F,F,F,F,F,F,F,F,F] (any_of HT_.out z31_0) ?_
 refine pu (i := 22) (N := some 114) #[T,T,T,T,T,T,T,T,T,T,T,T,T,T,T,T,T,T,T,T,T,T,T,F,F,F,F,F,F,F,F,F,F,F,F,F,F,F,F,F,F,F,F,F,F,F,F,F,F,F,F,F,F,F,F,F,F,F,F,F,F,F,F,F,F,F,F,F,F,F,F,F,F,F,F,F,F,F,F,F,F,F,F,F] (any_of HT_.out z31_0) ?_
 refine pu (i := 23) (N := some 115) #[T,T,T,T,T,T,T,T,T,T,T,T,T,T,T,T,T,T,T,T,T,T,T,T,F,F,F,F,F,F,F,F,F,F,F,F,F,F,F,F,F,F,F,F,F,F,F,F,F,F,F,F,F,F,F,F,F,F,F,F,F,F,F,F,F,F,F,F,F,F,F,F,F,F,F,F,F,F,F,F,F,F,F,F] (any_of HT_.out z31_0) ?_
 refine take_ (i := 24) (N := some 116) (v := ?_) (a' := ?_) #[T,T,T,T,T,T,T,T,T,T,T,T,T,T,T,T,T,T,T,T,T,T,T,T,T,F,F,F,F,F,F,F,F,F,F,F,F,F,F,F,F,F,F,F,F,F,F,F,F,F,F,F,F,F,F,F,F,F,F,F,F,F,F,F,F,F,F,F,F,F,F,F,F,F,F,F,F,F,F,F,F,F,F,F] rfl rfl (take_ofW HT_.out HW_.out z31_0) (fun _ _ _ h => h) (Or.inl ⟨by rfl, ?_⟩) hHeld ?_ ?_
 rotate_left
 ·rintro w' ⟨s0, s1, s2, s3, s4, s5, s6, s7, s8, s9, s10, s11, s12, s13, s14, s15, s16, s17, s18, s19, s20, s21, s22, s23, s24, s25⟩
  go_simp
  with_reducible rfl
 rotate_left
 ·exact acq
 refine take_ (i := 25) (N := some 117) (v := ?_) (a' := ?_) #[T,T,T,T,T,T,T,T,T,T,T,T,T,T,T,T,T,T,T,T,T,T,T,T,T,T,F,F,F,F,F,F,F,F,F,F,F,F,F,F,F,F,F,F,F,F,F,F,F,F,F,F,F,F,F,F,F,F,F,F,F,F,F,F,F,F,F,F,F,F,F,F,F,F,F,F,F,F,F,F,F,F,F,F] rfl rfl (take_ofW HT_.out HW_.out z31_0) (fun _ _ _ h => h) (Or.inl ⟨by rfl, ?_⟩) hHeld ?_ ?_
 rotate_left
 ·rintro w' ⟨s0, s1, s2, s3, s4, s5, s6, s7, s8, s9, s10, s11, s12, s13, s14, s15, s16, s17, s18, s19, s20, s21, s22, s23, s24, s25⟩
  go_simp
  with_reducible rfl
 rotate_left
 ·exact acq
 refine pu (i := 26) (N := some 118) #[T,T,T,T,T,T,T,T,T,T,T,T,T,T,T,T,T,T,T,T,T,T,T,T,T,T,T,F,F,F,F,F,F,F,F,F,F,F,F,F,F,F,F,F,F,F,F,F,F,F,F,F,F,F,F,F,F,F,F,F,F,F,F,F,F,F,F,F,F,F,F,F,F,F,F,F,F,F,F,F,F,F,F,F] (any_of HT_.out z31_0) ?_
 refine pu (i := 27) (N := some 119) #[T,T,T,T,T,T,T,T,T,T,T,T,T,T,T,T,T,T,T,T,T,T,T,T,T,T,T,T,F,F,F,F,F,F,F,F,F,F,F,F,F,F,F,F,F,F,F,F,F,F,F,F,F,F,F,F,F,F,F,F,F,F,F,F,F,F,F,F,F,F,F,F,F,F,F,F,F,F,F,F,F,F,F,F] (any_of HT_.out z31_0) ?_
 refine pu (i := 28) (N := some 120) #[T,T,T,T,T,T,T,T,T,T,T,T,T,T,T,T,T,T,T,T,T,T,T,T,T,T,T,T,T,F,F,F,F,F,F,F,F,F,F,F,F,F,F,F,F,F,F,F,F,F,F,F,F,F,F,F,F,F,F,F,F,F,F,F,F,F,F,F,F,F,F,F,F,F,F,F,F,F,F,F,F,F,F,F] (any_of HT_.out z31_0) ?_
 refine pu (i := 29) (N := some 121) #[T,T,T,T,T,T,T,T,T,T,T,T,T,T,T,T,T,T,T,T,T,T,T,T,T,T,T,T,T,T,F,F,F,F,F,F,F,F,F,F,F,F,F,F,F,F,F,F,F,F,F,F,F,F,F,F,F,F,F,F,F,F,F,F,F,F,F,F,F,F,F,F,F,F,F,F,F,F,F,F,F,F,F,F] (any_of HT_.out z31_0) ?_
 refine take_ (i := 30) (N := some 122) (v := ?_) (a' := ?_) #[T,T,T,T,T,T,T,T,T,T,T,T,T,T,T,T,T,T,T,T,T,T,T,T,T,T,T,T,T,T,T,F,F,F,F,F,F,F,F,F,F,F,F,F,F,F,F,F,F,F,F,F,F,F,F,F,F,F,F,F,F,F,F,F,F,F,F,F,F,F,F,F,F,F,F,F,F,F,F,F,F,F,F,F] rfl rfl (take_ofW HT_.out HW_.out z31_0) (fun _ _ _ h => h) (Or.inl ⟨by rfl, ?_⟩) hHeld ?_ ?_
 rotate_left
 ·rintro w' ⟨s0, s1, s2, s3, s4, s5, s6, s7, s8, s9, s10, s11, s12, s13, s14, s15, s16, s17, s18, s19, s20, s21, s22, s23, s24, s25⟩
  go_simp
  with_reducible rfl
 rotate_left
 ·exact acq
 refine one_ (i := 31) (N := some 123) #[T,T,T,T,T,T,T,T,T,T,T,T,T,T,T,T,T,T,T,T,T,T,T,T,T,T,T,T,T,T,T,T,F,F,F,F,F,F,F,F,F,F,F,F,F,F,F,F,F,F,F,F,F,F,F,F,F,F,F,F,F,F,F,F,F,F,F,F,F,F,F,F,F,F,F,F,F,F,F,F,F,F,F,F] rfl rfl (one_of HT_.out z31_0) (by decide) (fun K hK => ?_)
 refine goes_ Tryd.func20 z31_0 rfl #[.agg #[.int .i64 t552, .int .i64 t553]] (by rfl) rfl rfl ln_31 ?_
 with_reducible refine (spec_TurnsTo.calls k t552 t553 t556 _ A21.out).mono ?_
 rintro e w139 ⟨rfl, hb⟩
 refine ⟨_, rfl, ?_⟩
 replace BK509 := bkz BK509 hb; replace BK510 := bkz BK510 hb; replace BK516 := bkz BK516 hb; replace BK522 := bkz BK522 hb; replace BK529 := bkz BK529 hb; replace BK530 := bkz BK530 hb; replace BK534 := bkz BK534 hb; replace BK538 := bkz BK538 hb; replace BK545 := bkz BK545 hb; replace BK551 := bkz BK551 hb; replace BK554 := bkz BK554 hb; replace HB := Az.mk (bwT bw_31 hb)
 (try clear hb)
 (try clear hb2)
 (try clear hk)
 (try clear hi)
 refine hK.out _ _ csn_ (fun hHeld => ?_)
 clear hK K
 refine norm_ (a' := ?_) ?_ ?_
 rotate_left
 ·show Act.put _ (some 123) _ = _
  exact acq
 refine pu (i := 32) (N := some 124) #[T,T,T,T,T,T,T,T,T,T,T,T,T,T,T,T,T,T,T,T,T,T,T,T,T,T,T,T,T,T,T,T,T,F,F,F,F,F,F,F,F,F,F,F,F,F,F,F,F,F,F,F,F,F,F,F,F,F,F,F,F,F,F,F,F,F,F,F,F,F,F,F,F,F,F,F,F,F,F,F,F,F,F,F] (any_of HT_.out z31_0) ?_
 refine pu (i := 33) (N := some 125) #[T,T,T,T,T,T,T,T,T,T,T,T,T,T,T,T,T,T,T,T,T,T,T,T,T,T,T,T,T,T,T,T,T,T,F,F,F,F,F,F,F,F,F,F,F,F,F,F,F,F,F,F,F,F,F,F,F,F,F,F,F,F,F,F,F,F,F,F,F,F,F,F,F,F,F,F,F,F,F,F,F,F,F,F] (any_of HT_.out z31_0) ?_
 refine pu (i := 34) (N := some 126) #[T,T,T,T,T,T,T,T,T,T,T,T,T,T,T,T,T,T,T,T,T,T,T,T,T,T,T,T,T,T,T,T,T,T,T,F,F,F,F,F,F,F,F,F,F,F,F,F,F,F,F,F,F,F,F,F,F,F,F,F,F,F,F,F,F,F,F,F,F,F,F,F,F,F,F,F,F,F,F,F,F,F,F,F] (any_of HT_.out z31_0) ?_
 refine take_ (i := 35) (N := some 127) (v := ?_) (a' := ?_) #[T,T,T,T,T,T,T,T,T,T,T,T,T,T,T,T,T,T,T,T,T,T,T,T,T,T,T,T,T,T,T,T,T,T,T,T,F,F,F,F,F,F,F,F,F,F,F,F,F,F,F,F,F,F,F,F,F,F,F,F,F,F,F,F,F,F,F,F,F,F,F,F,F,F,F,F,F,F,F,F,F,F,F,F] rfl rfl (take_ofW HT_.out HW_.out z31_0) (fun _ _ _ h => h) (Or.inl ⟨by rfl, ?_⟩) hHeld ?_ ?_
 rotate_left
 ·rintro w' ⟨s0, s1, s2, s3, s4, s5, s6, s7, s8, s9, s10, s11, s12, s13, s14, s15, s16, s17, s18, s19, s20, s21, s22, s23, s24, s25⟩
  go_simp
  with_reducible rfl
 rotate_left
 ·exact acq
 refine take_ (i := 37) (N := some 129) (v := ?_) (a' := ?_) #[T,T,T,T,T,T,T,T,T,T,T,T,T,T,T,T,T,T,T,T,T,T,T,T,T,T,T,T,T,T,T,T,T,T,T,T,F,T,F,F,F,F,F,F,F,F,F,F,F,F,F,F,F,F,F,F,F,F,F,F,F,F,F,F,F,F,F,F,F,F,F,F,F,F,F,F,F,F,F,F,F,F,F,F] rfl rfl (take_ofW HT_.out HW_.out z31_0) (fun _ _ _ h => h) (Or.inl ⟨by rfl, ?_⟩) hHeld ?_ ?_
 rotate_left
 ·rintro w' ⟨s0, s1, s2, s3, s4, s5, s6, s7, s8, s9, s10, s11, s12, s13, s14, s15, s16, s17, s18, s19, s20, s21, s22, s23, s24, s25⟩
  go_simp
  with_reducible rfl
 rotate_left
 ·exact acq
 refine one_ (i := 36) (N := some 128) #[T,T,T,T,T,T,T,T,T,T,T,T,T,T,T,T,T,T,T,T,T,T,T,T,T,T,T,T,T,T,T,T,T,T,T,T,T,T,F,F,F,F,F,F,F,F,F,F,F,F,F,F,F,F,F,F,F,F,F,F,F,F,F,F,F,F,F,F,F,F,F,F,F,F,F,F,F,F,F,F,F,F,F,F] rfl rfl (one_of HT_.out z31_0) (by decide) (fun K hK => ?_)
 refine goes_ Tryd.func21 z31_0 rfl #[.agg #[.int .i64 t501, .int .i64 t502, .int .i64 t503, .int .i64 t504]] (by rfl) rfl rfl ln_31 ?_
 with_reducible refine (impl_IsMatrix.calls k t501 t502 t503 t504 t557 _ A23.out).mono ?_
 rintro e w140 ⟨rfl, hb⟩
 refine ⟨_, rfl, ?_⟩
 replace BK509 := bkz BK509 hb; replace BK510 := bkz BK510 hb; replace BK516 := bkz BK516 hb; replace BK522 := bkz BK522 hb; replace BK529 := bkz BK529 hb; replace BK530 := bkz BK530 hb; replace BK534 := bkz BK534 hb; replace BK538 := bkz BK538 hb; replace BK545 := bkz BK545 hb; replace BK551 := bkz BK551 hb; replace BK554 := bkz BK554 hb; replace HB := Az.mk (bwT bw_31 hb)
 (try clear hb)
 (try clear hb2)
 (try clear hk)
 (try clear hi)
 refine hK.out _ _ csn_ (fun hHeld => ?_)
 clear hK K
 refine norm_ (a' := ?_) ?_ ?_
 rotate_left
 ·show Act.put _ (some 128) _ = _
  exact acq
 refine one_ (i := 38) (N := some 130) #[T,T,T,T,T,T,T,T,T,T,T,T,T,T,T,T,T,T,T,T,T,T,T,T,T,T,T,T,T,T,T,T,T,T,T,T,T,T,T,F,F,F,F,F,F,F,F,F,F,F,F,F,F,F,F,F,F,F,F,F,F,F,F,F,F,F,F,F,F,F,F,F,F,F,F,F,F,F,F,F,F,F,F,F] rfl rfl (one_of HT_.out z31_0) (by decide) (fun K hK => ?_)
 refine goes_ Tryd.func22 z31_0 rfl #[.agg #[.int .i64 t501, .int .i64 t502, .int .i64 t503, .int .i64 t504]] (by rfl) rfl rfl ln_31 ?_
 with_reducible refine (spec_IsMatrix.calls k t501 t502 t503 t504 t558 _ A24.out).mono ?_
 rintro e w141 ⟨rfl, hb⟩
 refine ⟨_, rfl, ?_⟩
 replace BK509 := bkz BK509 hb; replace BK510 := bkz BK510 hb; replace BK516 := bkz BK516 hb; replace BK522 := bkz BK522 hb; replace BK529 := bkz BK529 hb; replace BK530 := bkz BK530 hb; replace BK534 := bkz BK534 hb; replace BK538 := bkz BK538 hb; replace BK545 := bkz BK545 hb; replace BK551 := bkz BK551 hb; replace BK554 := bkz BK554 hb; replace HB := Az.mk (bwT bw_31 hb)
 (try clear hb)
 (try clear hb2)
 (try clear hk)
 (try clear hi)
 refine hK.out _ _ csn_ (fun hHeld => ?_)
 clear hK K
 refine norm_ (a' := ?_) ?_ ?_
 rotate_left
 ·show Act.put _ (some 130) _ = _
  exact acq
 refine pu (i := 39) (N := some 131) #[T,T,T,T,T,T,T,T,T,T,T,T,T,T,T,T,T,T,T,T,T,T,T,T,T,T,T,T,T,T,T,T,T,T,T,T,T,T,T,T,F,F,F,F,F,F,F,F,F,F,F,F,F,F,F,F,F,F,F,F,F,F,F,F,F,F,F,F,F,F,F,F,F,F,F,F,F,F,F,F,F,F,F,F] (any_of HT_.out z31_0) ?_
 refine pu (i := 40) (N := some 132) #[T,T,T,T,T,T,T,T,T,T,T,T,T,T,T,T,T,T,T,T,T,T,T,T,T,T,T,T,T,T,T,T,T,T,T,T,T,T,T,T,T,F,F,F,F,F,F,F,F,F,F,F,F,F,F,F,F,F,F,F,F,F,F,F,F,F,F,F,F,F,F,F,F,F,F,F,F,F,F,F,F,F,F,F] (any_of HT_.out z31_0) ?_
 refine pu (i := 41) (N := some 133) #[T,T,T,T,T,T,T,T,T,T,T,T,T,T,T,T,T,T,T,T,T,T,T,T,T,T,T,T,T,T,T,T,T,T,T,T,T,T,T,T,T,T,F,F,F,F,F,F,F,F,F,F,F,F,F,F,F,F,F,F,F,F,F,F,F,F,F,F,F,F,F,F,F,F,F,F,F,F,F,F,F,F,F,F] (any_of HT_.out z31_0) ?_
 refine take_ (i := 42) (N := some 134) (v := ?_) (a' := ?_) #[T,T,T,T,T,T,T,T,T,T,T,T,T,T,T,T,T,T,T,T,T,T,T,T,T,T,T,T,T,T,T,T,T,T,T,T,T,T,T,T,T,T,T,F,F,F,F,F,F,F,F,F,F,F,F,F,F,F,F,F,F,F,F,F,F,F,F,F,F,F,F,F,F,F,F,F,F,F,F,F,F,F,F,F] rfl rfl (take_ofW HT_.out HW_.out z31_0) (fun _ _ _ h => h) (Or.inl ⟨by rfl, ?_⟩) hHeld ?_ ?_
 rotate_left
 ·rintro w' ⟨s0, s1, s2, s3, s4, s5, s6, s7, s8, s9, s10, s11, s12, s13, s14, s15, s16, s17, s18, s19, s20, s21, s22, s23, s24, s25⟩
  go_simp
  with_reducible rfl
 rotate_left
 ·exact acq
 refine take_ (i := 44) (N := some 136) (v := ?_) (a' := ?_) #[T,T,T,T,T,T,T,T,T,T,T,T,T,T,T,T,T,T,T,T,T,T,T,T,T,T,T,T,T,T,T,T,T,T,T,T,T,T,T,T,T,T,T,F,T,F,F,F,F,F,F,F,F,F,F,F,F,F,F,F,F,F,F,F,F,F,F,F,F,F,F,F,F,F,F,F,F,F,F,F,F,F,F,F] rfl rfl (take_ofW HT_.out HW_.out z31_0) (fun _ _ _ h => h) (Or.inl ⟨by rfl, ?_⟩) hHeld ?_ ?_
 rotate_left
 ·rintro w' ⟨s0, s1, s2, s3, s4, s5, s6, s7, s8, s9, s10, s11, s12, s13, s14, s15, s16, s17, s18, s19, s20, s21, s22, s23, s24, s25⟩
  go_simp
  with_reducible rfl
 rotate_left
 ·exact acq
 refine one_ (i := 43) (N := some 135) #[T,T,T,T,T,T,T,T,T,T,T,T,T,T,T,T,T,T,T,T,T,T,T,T,T,T,T,T,T,T,T,T,T,T,T,T,T,T,T,T,T,T,T,T,T,F,F,F,F,F,F,F,F,F,F,F,F,F,F,F,F,F,F,F,F,F,F,F,F,F,F,F,F,F,F,F,F,F,F,F,F,F,F,F] rfl rfl (one_of HT_.out z31_0) (by decide) (fun K hK => ?_)
 refine goes_ Tryd.func23 z31_0 rfl #[.agg #[.int .i64 t501, .int .i64 t502, .int .i64 t503, .int .i64 t504]] (by rfl) rfl rfl ln_31 ?_
 with_reducible refine (impl_InverseMatrix.calls k t501 t502 t503 t504 t559 t560 t561 t562 _ A26.out).mono ?_
 rintro e w142 ⟨rfl, hb⟩
 refine ⟨_, rfl, ?_⟩
 replace BK509 := bkz BK509 hb; replace BK510 := bkz BK510 hb; replace BK516 := bkz BK516 hb; replace BK522 := bkz BK522 hb; replace BK529 := bkz BK529 hb; replace BK530 := bkz BK530 hb; replace BK534 := bkz BK534 hb; replace BK538 := bkz BK538 hb; replace BK545 := bkz BK545 hb; replace BK551 := bkz BK551 hb; replace BK554 := bkz BK554 hb; replace HB := Az.mk (bwT bw_31 hb)
 (try clear hb)
 (try clear hb2)
 (try clear hk)
 (try clear hi)
 refine hK.out _ _ csn_ (fun hHeld => ?_)
 clear hK K
 refine norm_ (a' := ?_) ?_ ?_
 rotate_left
 ·show Act.put _ (some 135) _ = _
  exact acq
 refine one_ (i := 45) (N := some 137) #[T,T,T,T,T,T,T,T,T,T,T,T,T,T,T,T,T,T,T,T,T,T,T,T,T,T,T,T,T,T,T,T,T,T,T,T,T,T,T,T,T,T,T,T,T,T,F,F,F,F,F,F,F,F,F,F,F,F,F,F,F,F,F,F,F,F,F,F,F,F,F,F,F,F,F,F,F,F,F,F,F,F,F,F] rfl rfl (one_of HT_.out z31_0) (by decide) (fun K hK => ?_)
 refine goes_ Tryd.func24 z31_0 rfl #[.agg #[.int .i64 t501, .int .i64 t502, .int .i64 t503, .int .i64 t504]] (by rfl) rfl rfl ln_31 ?_
 with_reducible refine (spec_InverseMatrix.calls k t501 t502 t503 t504 t563 t564 t565 t566 _ A27.out).mono ?_
 rintro e w143 ⟨rfl, hb⟩
 refine ⟨_, rfl, ?_⟩
 replace BK509 := bkz BK509 hb; replace BK510 := bkz BK510 hb; replace BK516 := bkz BK516 hb; replace BK522 := bkz BK522 hb; replace BK529 := bkz BK529 hb; replace BK530 := bkz BK530 hb; replace BK534 := bkz BK534 hb; replace BK538 := bkz BK538 hb; replace BK545 := bkz BK545 hb; replace BK551 := bkz BK551 hb; replace BK554 := bkz BK554 hb; replace HB := Az.mk (bwT bw_31 hb)
 (try clear hb)
 (try clear hb2)
 (try clear hk)
 (try clear hi)
 refine hK.out _ _ csn_ (fun hHeld => ?_)
 clear hK K
 refine norm_ (a' := ?_) ?_ ?_
 rotate_left
 ·show Act.put _ (some 137) _ = _
  exact acq
 refine pu (i := 46) (N := some 138) #[T,T,T,T,T,T,T,T,T,T,T,T,T,T,T,T,T,T,T,T,T,T,T,T,T,T,T,T,T,T,T,T,T,T,T,T,T,T,T,T,T,T,T,T,T,T,T,F,F,F,F,F,F,F,F,F,F,F,F,F,F,F,F,F,F,F,F,F,F,F,F,F,F,F,F,F,F,F,F,F,F,F,F,F] (any_of HT_.out z31_0) ?_
 refine pu (i := 47) (N := some 139) #[T,T,T,T,T,T,T,T,T,T,T,T,T,T,T,T,T,T,T,T,T,T,T,T,T,T,T,T,T,T,T,T,T,T,T,T,T,T,T,T,T,T,T,T,T,T,T,T,F,F,F,F,F,F,F,F,F,F,F,F,F,F,F,F,F,F,F,F,F,F,F,F,F,F,F,F,F,F,F,F,F,F,F,F] (any_of HT_.out z31_0) ?_
 refine pu (i := 48) (N := some 140) #[T,T,T,T,T,T,T,T,T,T,T,T,T,T,T,T,T,T,T,T,T,T,T,T,T,T,T,T,T,T,T,T,T,T,T,T,T,T,T,T,T,T,T,T,T,T,T,T,T,F,F,F,F,F,F,F,F,F,F,F,F,F,F,F,F,F,F,F,F,F,F,F,F,F,F,F,F,F,F,F,F,F,F,F] (any_of HT_.out z31_0) ?_
 refine take_ (i := 49) (N := some 141) (v := ?_) (a' := ?_) #[T,T,T,T,T,T,T,T,T,T,T,T,T,T,T,T,T,T,T,T,T,T,T,T,T,T,T,T,T,T,T,T,T,T,T,T,T,T,T,T,T,T,T,T,T,T,T,T,T,T,F,F,F,F,F,F,F,F,F,F,F,F,F,F,F,F,F,F,F,F,F,F,F,F,F,F,F,F,F,F,F,F,F,F] rfl rfl (take_ofW HT_.out HW_.out z31_0) (fun _ _ _ h => h) (Or.inl ⟨by rfl, ?_⟩) hHeld ?_ ?_
 rotate_left
 ·rintro w' ⟨s0, s1, s2, s3, s4, s5, s6, s7, s8, s9, s10, s11, s12, s13, s14, s15, s16, s17, s18, s19, s20, s21, s22, s23, s24, s25⟩
  go_simp
  with_reducible rfl
 rotate_left
 ·exact acq
 refine take_ (i := 51) (N := some 143) (v := ?_) (a' := ?_) #[T,T,T,T,T,T,T,T,T,T,T,T,T,T,T,T,T,T,T,T,T,T,T,T,T,T,T,T,T,T,T,T,T,T,T,T,T,T,T,T,T,T,T,T,T,T,T,T,T,T,F,T,F,F,F,F,F,F,F,F,F,F,F,F,F,F,F,F,F,F,F,F,F,F,F,F,F,F,F,F,F,F,F,F] rfl rfl (take_ofW HT_.out HW_.out z31_0) (fun _ _ _ h => h) (Or.inl ⟨by rfl, ?_⟩) hHeld ?_ ?_
 rotate_left
 ·rintro w' ⟨s0, s1, s2, s3, s4, s5, s6, s7, s8, s9, s10, s11, s12, s13, s14, s15, s16, s17, s18, s19, s20, s21, s22, s23, s24, s25⟩
  go_simp
  with_reducible rfl
 rotate_left
 ·exact acq
 refine one_ (i := 50) (N := some 142) #[T,T,T,T,T,T,T,T,T,T,T,T,T,T,T,T,T,T,T,T,T,T,T,T,T,T,T,T,T,T,T,T,T,T,T,T,T,T,T,T,T,T,T,T,T,T,T,T,T,T,T,T,F,F,F,F,F,F,F,F,F,F,F,F,F,F,F,F,F,F,F,F,F,F,F,F,F,F,F,F,F,F,F,F] rfl rfl (one_of HT_.out z31_0) (by decide) (fun K hK => ?_)
 refine goes_ Tryd.func25 z31_0 rfl #[.agg #[.int .i64 t501, .int .i64 t502, .int .i64 t503, .int .i64 t504]] (by rfl) rfl rfl ln_31 ?_
 with_reducible refine (impl_TraceOf.calls k t501 t502 t503 t504 t567 _ A29.out).mono ?_
 rintro e w144 ⟨rfl, hb⟩
 refine ⟨_, rfl, ?_⟩
 replace BK509 := bkz BK509 hb; replace BK510 := bkz BK510 hb; replace BK516 := bkz BK516 hb; replace BK522 := bkz BK522 hb; replace BK529 := bkz BK529 hb; replace BK530 := bkz BK530 hb; replace BK534 := bkz BK534 hb; replace BK538 := bkz BK538 hb; replace BK545 := bkz BK545 hb; replace BK551 := bkz BK551 hb; replace BK554 := bkz BK554 hb; replace HB := Az.mk (bwT bw_31 hb)
 (try clear hb)
 (try clear hb2)
 (try clear hk)
 (try clear hi)
 refine hK.out _ _ csn_ (fun hHeld => ?_)
 clear hK K
 refine norm_ (a' := ?_) ?_ ?_
 rotate_left
 ·show Act.put _ (some 142) _ = _
  exact acq
 refine one_ (i := 52) (N := some 144) #[T,T,T,T,T,T,T,T,T,T,T,T,T,T,T,T,T,T,T,T,T,T,T,T,T,T,T,T,T,T,T,T,T,T,T,T,T,T,T,T,T,T,T,T,T,T,T,T,T,T,T,T,T,F,F,F,F,F,F,F,F,F,F,F,F,F,F,F,F,F,F,F,F,F,F,F,F,F,F,F,F,F,F,F] rfl rfl (one_of HT_.out z31_0) (by decide) (fun K hK => ?_)
 refine goes_ Tryd.func26 z31_0 rfl #[.agg #[.int .i64 t501, .int .i64 t502, .int .i64 t503, .int .i64 t504]] (by rfl) rfl rfl ln_31 ?_
 with_reducible refine (spec_TraceOf.calls k t501 t502 t503 t504 t568 _ A30.out).mono ?_
 rintro e w145 ⟨rfl, hb⟩
 refine ⟨_, rfl, ?_⟩
 replace BK509 := bkz BK509 hb; replace BK510 := bkz BK510 hb; replace BK516 := bkz BK516 hb; replace BK522 := bkz BK522 hb; replace BK529 := bkz BK529 hb; replace BK530 := bkz BK530 hb; replace BK534 := bkz BK534 hb; replace BK538 := bkz BK538 hb; replace BK545 := bkz BK545 hb; replace BK551 := bkz BK551 hb; replace BK554 := bkz BK554 hb; replace HB := Az.mk (bwT bw_31 hb)
 (try clear hb)
 (try clear hb2)
 (try clear hk)
 (try clear hi)
 refine hK.out _ _ csn_ (fun hHeld => ?_)
 clear hK K
 refine norm_ (a' := ?_) ?_ ?_
 rotate_left
 ·show Act.put _ (some 144) _ = _
  exact acq
 refine pu (i := 53) (N := some 145) #[T,T,T,T,T,T,T,T,T,T,T,T,T,T,T,T,T,T,T,T,T,T,T,T,T,T,T,T,T,T,T,T,T,T,T,T,T,T,T,T,T,T,T,T,T,T,T,T,T,T,T,T,T,T,F,F,F,F,F,F,F,F,F,F,F,F,F,F,F,F,F,F,F,F,F,F,F,F,F,F,F,F,F,F] (any_of HT_.out z31_0) ?_
 refine pu (i := 54) (N := some 146) #[T,T,T,T,T,T,T,T,T,T,T,T,T,T,T,T,T,T,T,T,T,T,T,T,T,T,T,T,T,T,T,T,T,T,T,T,T,T,T,T,T,T,T,T,T,T,T,T,T,T,T,T,T,T,T,F,F,F,F,F,F,F,F,F,F,F,F,F,F,F,F,F,F,F,F,F,F,F,F,F,F,F,F,F] (any_of HT_.out z31_0) ?_
 refine pu (i := 55) (N := some 147) #[T,T,T,T,T,T,T,T,T,T,T,T,T,T,T,T,T,T,T,T,T,T,T,T,T,T,T,T,T,T,T,T,T,T,T,T,T,T,T,T,T,T,T,T,T,T,T,T,T,T,T,T,T,T,T,T,F,F,F,F,F,F,F,F,F,F,F,F,F,F,F,F,F,F,F,F,F,F,F,F,F,F,F,F] (any_of HT_.out z31_0) ?_
 refine take_ (i := 56) (N := some 148) (v := ?_) (a' := ?_) #[T,T,T,T,T,T,T,T,T,T,T,T,T,T,T,T,T,T,T,T,T,T,T,T,T,T,T,T,T,T,T,T,T,T,T,T,T,T,T,T,T,T,T,T,T,T,T,T,T,T,T,T,T,T,T,T,T,F,F,F,F,F,F,F,F,F,F,F,F,F,F,F,F,F,F,F,F,F,F,F,F,F,F,F] rfl rfl (take_ofW HT_.out HW_.out z31_0) (fun _ _ _ h => h) (Or.inl ⟨by rfl, ?_⟩) hHeld ?_ ?_
 rotate_left
 ·rintro w' ⟨s0, s1, s2, s3, s4, s5, s6, s7, s8, s9, s10, s11, s12, s13, s14, s15, s16, s17, s18, s19, s20, s21, s22, s23, s24, s25⟩
  go_simp
  with_reducible rfl
 rotate_left
 ·exact acq
 refine take_ (i := 58) (N := some 150) (v := ?_) (a' := ?_) #[T,T,T,T,T,T,T,T,T,T,T,T,T,T,T,T,T,T,T,T,T,T,T,T,T,T,T,T,T,T,T,T,T,T,T,T,T,T,T,T,T,T,T,T,T,T,T,T,T,T,T,T,T,T,T,T,T,F,T,F,F,F,F,F,F,F,F,F,F,F,F,F,F,F,F,F,F,F,F,F,F,F,F,F] rfl rfl (take_ofW HT_.out HW_.out z31_0) (fun _ _ _ h => h) (Or.inl ⟨by rfl, ?_⟩) hHeld ?_ ?_
 rotate_left
 ·rintro w' ⟨s0, s1, s2, s3, s4, s5, s6, s7, s8, s9, s10, s11, s12, s13, s14, s15, s16, s17, s18, s19, s20, s21, s22, s23, s24, s25⟩
  go_simp
  with_reducible rfl
 rotate_left
 ·exact acq
 refine one_ (i := 57) (N := some 149) #[T,T,T,T,T,T,T,T,T,T,T,T,T,T,T,T,T,T,T,T,T,T,T,T,T,T,T,T,T,T,T,T,T,T,T,T,T,T,T,T,T,T,T,T,T,T,T,T,T,T,T,T,T,T,T,T,T,T,T,F,F,F,F,F,F,F,F,F,F,F,F,F,F,F,F,F,F,F,F,F,F,F,F,F] rfl rfl (one_of HT_.out z31_0) (by decide) (fun K hK => ?_)
 refine goes_ Tryd.func27 z31_0 rfl #[.agg #[.int .i64 t501, .int .i64 t502, .int .i64 t503, .int .i64 t504]] (by rfl) rfl rfl ln_31 ?_
 with_reducible refine (impl_KindOf.calls k t501 t502 t503 t504 t569 _ A32.out).mono ?_
 rintro e w146 ⟨rfl, hb⟩
 refine ⟨_, rfl, ?_⟩
 replace BK509 := bkz BK509 hb; replace BK510 := bkz BK510 hb; replace BK516 := bkz BK516 hb; replace BK522 := bkz BK522 hb; replace BK529 := bkz BK529 hb; replace BK530 := bkz BK530 hb; replace BK534 := bkz BK534 hb; replace BK538 := bkz BK538 hb; replace BK545 := bkz BK545 hb; replace BK551 := bkz BK551 hb; replace BK554 := bkz BK554 hb; replace HB := Az.mk (bwT bw_31 hb)
 (try clear hb)
 (try clear hb2)
 (try clear hk)
 (try clear hi)
 refine hK.out _ _ csn_ (fun hHeld => ?_)
 clear hK K
 refine norm_ (a' := ?_) ?_ ?_
 rotate_left
 ·show Act.put _ (some 149) _ = _
  exact acq
 refine one_ (i := 59) (N := some 151) #[T,T,T,T,T,T,T,T,T,T,T,T,T,T,T,T,T,T,T,T,T,T,T,T,T,T,T,T,T,T,T,T,T,T,T,T,T,T,T,T,T,T,T,T,T,T,T,T,T,T,T,T,T,T,T,T,T,T,T,T,F,F,F,F,F,F,F,F,F,F,F,F,F,F,F,F,F,F,F,F,F,F,F,F] rfl rfl (one_of HT_.out z31_0) (by decide) (fun K hK => ?_)
 refine goes_ Tryd.func28 z31_0 rfl #[.agg #[.int .i64 t501, .int .i64 t502, .int .i64 t503, .int .i64 t504]] (by rfl) rfl rfl ln_31 ?_
 with_reducible refine (spec_KindOf.calls k t501 t502 t503 t504 t570 _ A33.out).mono ?_
 rintro e w147 ⟨rfl, hb⟩
 refine ⟨_, rfl, ?_⟩
 replace BK509 := bkz BK509 hb; replace BK510 := bkz BK510 hb; replace BK516 := bkz BK516 hb; replace BK522 := bkz BK522 hb; replace BK529 := bkz BK529 hb; replace BK530 := bkz BK530 hb; replace BK534 := bkz BK534 hb; replace BK538 := bkz BK538 hb; replace BK545 := bkz BK545 hb; replace BK551 := bkz BK551 hb; replace BK554 := bkz BK554 hb; replace HB := Az.mk (bwT bw_31 hb)
 (try clear hb)
 (try clear hb2)
 (try clear hk)
 (try clear hi)
 refine hK.out _ _ csn_ (fun hHeld => ?_)
 clear hK K
 refine norm_ (a' := ?_) ?_ ?_
 rotate_left
 ·show Act.put _ (some 151) _ = _
  exact acq
 refine pu (i := 60) (N := some 152) #[T,T,T,T,T,T,T,T,T,T,T,T,T,T,T,T,T,T,T,T,T,T,T,T,T,T,T,T,T,T,T,T,T,T,T,T,T,T,T,T,T,T,T,T,T,T,T,T,T,T,T,T,T,T,T,T,T,T,T,T,T,F,F,F,F,F,F,F,F,F,F,F,F,F,F,F,F,F,F,F,F,F,F,F] (any_of HT_.out z31_0) ?_
 refine pu (i := 61) (N := some 153) #[T,T,T,T,T,T,T,T,T,T,T,T,T,T,T,T,T,T,T,T,T,T,T,T,T,T,T,T,T,T,T,T,T,T,T,T,T,T,T,T,T,T,T,T,T,T,T,T,T,T,T,T,T,T,T,T,T,T,T,T,T,T,F,F,F,F,F,F,F,F,F,F,F,F,F,F,F,F,F,F,F,F,F,F] (any_of HT_.out z31_0) ?_
 refine pu (i := 62) (N := some 154) #[T,T,T,T,T,T,T,T,T,T,T,T,T,T,T,T,T,T,T,T,T,T,T,T,T,T,T,T,T,T,T,T,T,T,T,T,T,T,T,T,T,T,T,T,T,T,T,T,T,T,T,T,T,T,T,T,T,T,T,T,T,T,T,F,F,F,F,F,F,F,F,F,F,F,F,F,F,F,F,F,F,F,F,F] (any_of HT_.out z31_0) ?_
 refine take_ (i := 63) (N := some 155) (v := ?_) (a' := ?_) #[T,T,T,T,T,T,T,T,T,T,T,T,T,T,T,T,T,T,T,T,T,T,T,T,T,T,T,T,T,T,T,T,T,T,T,T,T,T,T,T,T,T,T,T,T,T,T,T,T,T,T,T,T,T,T,T,T,T,T,T,T,T,T,T,F,F,F,F,F,F,F,F,F,F,F,F,F,F,F,F,F,F,F,F] rfl rfl (take_ofW HT_.out HW_.out z31_0) (fun _ _ _ h => h) (Or.inl ⟨by rfl, ?_⟩) hHeld ?_ ?_
 rotate_left
 ·rintro w' ⟨s0, s1, s2, s3, s4, s5, s6, s7, s8, s9, s10, s11, s12, s13, s14, s15, s16, s17, s18, s19, s20, s21, s22, s23, s24, s25⟩
  go_simp
  with_reducible rfl
 rotate_left
 ·exact acq
 refine take_ (i := 65) (N := some 157) (v := ?_) (a' := ?_) #[T,T,T,T,T,T,T,T,T,T,T,T,T,T,T,T,T,T,T,T,T,T,T,T,T,T,T,T,T,T,T,T,T,T,T,T,T,T,T,T,T,T,T,T,T,T,T,T,T,T,T,T,T,T,T,T,T,T,T,T,T,T,T,T,F,T,F,F,F,F,F,F,F,F,F,F,F,F,F,F,F,F,F,F] rfl rfl (take_ofW HT_.out HW_.out z31_0) (fun _ _ _ h => h) (Or.inl ⟨by rfl, ?_⟩) hHeld ?_ ?_
 rotate_left
 ·rintro w' ⟨s0, s1, s2, s3, s4, s5, s6, s7, s8, s9, s10, s11, s12, s13, s14, s15, s16, s17, s18, s19, s20, s21, s22, s23, s24, s25⟩
  go_simp
  with_reducible rfl
 rotate_left
 ·exact acq
 refine one_ (i := 64) (N := some 156) #[T,T,T,T,T,T,T,T,T,T,T,T,T,T,T,T,T,T,T,T,T,T,T,T,T,T,T,T,T,T,T,T,T,T,T,T,T,T,T,T,T,T,T,T,T,T,T,T,T,T,T,T,T,T,T,T,T,T,T,T,T,T,T,T,T,T,F,F,F,F,F,F,F,F,F,F,F,F,F,F,F,F,F,F] rfl rfl (one_of HT_.out z31_0) (by decide) (fun K hK => ?_)
 refine goes_ Tryd.func29 z31_0 rfl #[.agg #[.int .i64 t501, .int .i64 t502, .int .i64 t503, .int .i64 t504]] (by rfl) rfl rfl ln_31 ?_
 with_reducible refine (impl_OrderOf.calls k t501 t502 t503 t504 t571 _ A35.out).mono ?_
 rintro e w148 ⟨rfl, hb⟩
 refine ⟨_, rfl, ?_⟩
 replace BK509 := bkz BK509 hb; replace BK510 := bkz BK510 hb; replace BK516 := bkz BK516 hb; replace BK522 := bkz BK522 hb; replace BK529 := bkz BK529 hb; replace BK530 := bkz BK530 hb; replace BK534 := bkz BK534 hb; replace BK538 := bkz BK538 hb; replace BK545 := bkz BK545 hb; replace BK551 := bkz BK551 hb; replace BK554 := bkz BK554 hb; replace HB := Az.mk (bwT bw_31 hb)
 (try clear hb)
 (try clear hb2)
 (try clear hk)
 (try clear hi)
 refine hK.out _ _ csn_ (fun hHeld => ?_)
 clear hK K
 refine norm_ (a' := ?_) ?_ ?_
 rotate_left
 ·show Act.put _ (some 156) _ = _
  exact acq
 refine one_ (i := 66) (N := some 158) #[T,T,T,T,T,T,T,T,T,T,T,T,T,T,T,T,T,T,T,T,T,T,T,T,T,T,T,T,T,T,T,T,T,T,T,T,T,T,T,T,T,T,T,T,T,T,T,T,T,T,T,T,T,T,T,T,T,T,T,T,T,T,T,T,T,T,T,F,F,F,F,F,F,F,F,F,F,F,F,F,F,F,F,F] rfl rfl (one_of HT_.out z31_0) (by decide) (fun K hK => ?_)
 refine goes_ Tryd.func30 z31_0 rfl #[.agg #[.int .i64 t501, .int .i64 t502, .int .i64 t503, .int .i64 t504]] (by rfl) rfl rfl ln_31 ?_
 with_reducible refine (spec_OrderOf.calls k t501 t502 t503 t504 t572 _ A36.out).mono ?_
 rintro e w149 ⟨rfl, hb⟩
 refine ⟨_, rfl, ?_⟩
 replace BK509 := bkz BK509 hb; replace BK510 := bkz BK510 hb; replace BK516 := bkz BK516 hb; replace BK522 := bkz BK522 hb; replace BK529 := bkz BK529 hb; replace BK530 := bkz BK530 hb; replace BK534 := bkz BK534 hb; replace BK538 := bkz BK538 hb; replace BK545 := bkz BK545 hb; replace BK551 := bkz BK551 hb; replace BK554 := bkz BK554 hb; replace HB := Az.mk (bwT bw_31 hb)
 (try clear hb)
 (try clear hb2)
 (try clear hk)
 (try clear hi)
 refine hK.out _ _ csn_ (fun hHeld => ?_)
 clear hK K
 refine norm_ (a' := ?_) ?_ ?_
 rotate_left
 ·show Act.put _ (some 158) _ = _
  exact acq
 refine pu (i := 67) (N := some 159) #[T,T,T,T,T,T,T,T,T,T,T,T,T,T,T,T,T,T,T,T,T,T,T,T,T,T,T,T,T,T,T,T,T,T,T,T,T,T,T,T,T,T,T,T,T,T,T,T,T,T,T,T,T,T,T,T,T,T,T,T,T,T,T,T,T,T,T,T,F,F,F,F,F,F,F,F,F,F,F,F,F,F,F,F] (any_of HT_.out z31_0) ?_
 refine pu (i := 68) (N := some 160) #[T,T,T,T,T,T,T,T,T,T,T,T,T,T,T,T,T,T,T,T,T,T,T,T,T,T,T,T,T,T,T,T,T,T,T,T,T,T,T,T,T,T,T,T,T,T,T,T,T,T,T,T,T,T,T,T,T,T,T,T,T,T,T,T,T,T,T,T,T,F,F,F,F,F,F,F,F,F,F,F,F,F,F,F] (any_of HT_.out z31_0) ?_
 refine pu (i := 69) (N := some 161) #[T,T,T,T,T,T,T,T,T,T,T,T,T,T,T,T,T,T,T,T,T,T,T,T,T,T,T,T,T,T,T,T,T,T,T,T,T,T,T,T,T,T,T,T,T,T,T,T,T,T,T,T,T,T,T,T,T,T,T,T,T,T,T,T,T,T,T,T,T,T,F,F,F,F,F,F,F,F,F,F,F,F,F,F] (any_of HT_.out z31_0) ?_
 refine take_ (i := 70) (N := some 162) (v := ?_) (a' := ?_) #[T,T,T,T,T,T,T,T,T,T,T,T,T,T,T,T,T,T,T,T,T,T,T,T,T,T,T,T,T,T,T,T,T,T,T,T,T,T,T,T,T,T,T,T,T,T,T,T,T,T,T,T,T,T,T,T,T,T,T,T,T,T,T,T,T,T,T,T,T,T,T,F,F,F,F,F,F,F,F,F,F,F,F,F] rfl rfl (take_ofW HT_.out HW_.out z31_0) (fun _ _ _ h => h) (Or.inl ⟨by rfl, ?_⟩) hHeld ?_ ?_
 rotate_left
 ·rintro w' ⟨s0, s1, s2, s3, s4, s5, s6, s7, s8, s9, s10, s11, s12, s13, s14, s15, s16, s17, s18, s19, s20, s21, s22, s23, s24, s25⟩
  go_simp
  with_reducible rfl
 rotate_left
 ·exact acq
 refine take_ (i := 72) (N := some 164) (v := ?_) (a' := ?_) #[T,T,T,T,T,T,T,T,T,T,T,T,T,T,T,T,T,T,T,T,T,T,T,T,T,T,T,T,T,T,T,T,T,T,T,T,T,T,T,T,T,T,T,T,T,T,T,T,T,T,T,T,T,T,T,T,T,T,T,T,T,T,T,T,T,T,T,T,T,T,T,F,T,F,F,F,F,F,F,F,F,F,F,F] rfl rfl (take_ofW HT_.out HW_.out z31_0) (fun _ _ _ h => h) (Or.inl ⟨by rfl, ?_⟩) hHeld ?_ ?_
 rotate_left
 ·rintro w' ⟨s0, s1, s2, s3, s4, s5, s6, s7, s8, s9, s10, s11, s12, s13, s14, s15, s16, s17, s18, s19, s20, s21, s22, s23, s24, s25⟩
  go_simp
  with_reducible rfl
 rotate_left
 ·exact acq
 refine one_ (i := 71) (N := some 163) #[T,T,T,T,T,T,T,T,T,T,T,T,T,T,T,T,T,T,T,T,T,T,T,T,T,T,T,T,T,T,T,T,T,T,T,T,T,T,T,T,T,T,T,T,T,T,T,T,T,T,T,T,T,T,T,T,T,T,T,T,T,T,T,T,T,T,T,T,T,T,T,T,T,F,F,F,F,F,F,F,F,F,F,F] rfl rfl (one_of HT_.out z31_0) (by decide) (fun K hK => ?_)
 refine goes_ Tryd.func32 z31_0 rfl #[.agg #[.int .i64 t501, .int .i64 t502, .int .i64 t503, .int .i64 t504]] (by rfl) rfl rfl ln_31 ?_
 with_reducible refine (impl_FixedSlopes.calls k t501 t502 t503 t504 t573 _ A38.out).mono ?_
 rintro e w150 ⟨v574, rfl, ho0, hb⟩
 refine ⟨_, rfl, ?_⟩
 have HO575 := Az.mk (Kd.R_lower (Kd.R_newB (Kd.R_newB (Kd.R_newB (Kd.R_newB ho0 (g := gb530) (o := .cells #[.int .i64 t527, .int .i64 t528] 35 (0, 0)) (bk1 BK530)) (g := gb534) (o := .cells #[.int .i64 t531, .int .i64 t532] 35 (0, 0)) (bk1 BK534)) (g := gb538) (o := .cells #[.int .i64 t535, .int .i64 t536] 35 (0, 0)) (bk1 BK538)) (g := gb554) (o := .cells #[.int .i64 t552, .int .i64 t553] 35 (0, 0)) (bk1 BK554)) (bwZ bw_31)); replace BK509 := bkz BK509 hb; replace BK510 := bkz BK510 hb; replace BK516 := bkz BK516 hb; replace BK522 := bkz BK522 hb; replace BK529 := bkz BK529 hb; replace BK530 := bkz BK530 hb; replace BK534 := bkz BK534 hb; replace BK538 := bkz BK538 hb; replace BK545 := bkz BK545 hb; replace BK551 := bkz BK551 hb; replace BK554 := bkz BK554 hb; replace HB := Az.mk (bwT bw_31 hb)
 (try clear hb)
 (try clear hb2)
 (try clear hk)
 (try clear hi)
 (try clear ho0)
 refine hK.out _ _ csn_ (fun hHeld => ?_)
 clear hK K
 refine norm_ (a' := ?_) ?_ ?_
 rotate_left
 ·show Act.put _ (some 163) _ = _
  exact acq
 refine one_ (i := 73) (N := some 165) #[T,T,T,T,T,T,T,T,T,T,T,T,T,T,T,T,T,T,T,T,T,T,T,T,T,T,T,T,T,T,T,T,T,T,T,T,T,T,T,T,T,T,T,T,T,T,T,T,T,T,T,T,T,T,T,T,T,T,T,T,T,T,T,T,T,T,T,T,T,T,T,T,T,T,F,F,F,F,F,F,F,F,F,F] rfl rfl (one_of HT_.out z31_0) (by decide) (fun K hK => ?_)
 refine goes_ Tryd.func33 z31_0 rfl #[.agg #[.int .i64 t501, .int .i64 t502, .int .i64 t503, .int .i64 t504]] (by rfl) rfl rfl ln_31 ?_
 with_reducible refine (spec_FixedSlopes.calls k t501 t502 t503 t504 t576 _ A39.out).mono ?_
 rintro e w151 ⟨v577, rfl, ho0, hb⟩
 refine ⟨_, rfl, ?_⟩
 have HO578 := Az.mk (Kd.R_lower (Kd.R_newB (Kd.R_newB (Kd.R_newB (Kd.R_newB (Kd.R_new' ho0 (Kd.R_lt (by (with_reducible repeat (first | apply Kd.R_alloc | apply Kd.R_drewN | apply Kd.R_drew)); exact HO575.out))) (g := gb530) (o := .cells #[.int .i64 t527, .int .i64 t528] 35 (0, 0)) (bk1 BK530)) (g := gb534) (o := .cells #[.int .i64 t531, .int .i64 t532] 35 (0, 0)) (bk1 BK534)) (g := gb538) (o := .cells #[.int .i64 t535, .int .i64 t536] 35 (0, 0)) (bk1 BK538)) (g := gb554) (o := .cells #[.int .i64 t552, .int .i64 t553] 35 (0, 0)) (bk1 BK554)) (bwZ bw_31)); replace HO575 := Az.mk (Kd.R_elder' (by (with_reducible repeat (first | apply Kd.R_alloc | apply Kd.R_drewN | apply Kd.R_drew)); exact HO575.out) (Kd.R_base ho0) hb); replace BK509 := bkz BK509 hb; replace BK510 := bkz BK510 hb; replace BK516 := bkz BK516 hb; replace BK522 := bkz BK522 hb; replace BK529 := bkz BK529 hb; replace BK530 := bkz BK530 hb; replace BK534 := bkz BK534 hb; replace BK538 := bkz BK538 hb; replace BK545 := bkz BK545 hb; replace BK551 := bkz BK551 hb; replace BK554 := bkz BK554 hb; replace HB := Az.mk (bwT bw_31 hb)
 (try clear hb)
 (try clear hb2)
 (try clear hk)
 (try clear hi)
 (try clear ho0)
 obtain ⟨Ao152, co152, eo152⟩ := Kd.R_slice HO575.out
 (first | subst eo152 | (injection eo152 with f1_ f2_ f3_; have f4_ := f1_.symm; have f5_ := f3_.symm; clear f1_ f2_ f3_; subst f4_; subst f5_))
 obtain ⟨Ao153, co153, eo153⟩ := Kd.R_slice HO578.out
 (first | subst eo153 | (injection eo153 with f1_ f2_ f3_; have f4_ := f1_.symm; have f5_ := f3_.symm; clear f1_ f2_ f3_; subst f4_; subst f5_))
 refine hK.out _ _ csn_ (fun hHeld => ?_)
 clear hK K
 refine norm_ (a' := ?_) ?_ ?_
 rotate_left
 ·show Act.put _ (some 165) _ = _
  exact acq
 refine one_ (i := 74) (N := some 166) #[T,T,T,T,T,T,T,T,T,T,T,T,T,T,T,T,T,T,T,T,T,T,T,T,T,T,T,T,T,T,T,T,T,T,T,T,T,T,T,T,T,T,T,T,T,T,T,T,T,T,T,T,T,T,T,T,T,T,T,T,T,T,T,T,T,T,T,T,T,T,T,T,T,T,T,F,F,F,F,F,F,F,F,F] rfl rfl (one_of HT_.out z31_0) (by decide) (fun K hK => ?_)
 refine goes_ Tryd.func31 z31_0 rfl #[.slice Ao152 t573.length co152, .slice Ao153 t576.length co153] (by rfl) rfl rfl ln_31 ?_
 with_reducible refine (laws_sameSlopes.calls k _ _ t573 _ _ t576 true _ ?side1 ?side2 ?side3 ?side4 A40.out).mono ?_
 (case side1 => repeat (first | exact (Kd.R_reads' HO575.out).2.2 | (with_reducible refine Kd.C_alloc ?_ _) | (with_reducible refine Kd.C_drewN ?_ _) | (with_reducible refine Kd.C_drew ?_)))
 (case side2 => exact (Kd.R_reads' HO575.out).2.1)
 (case side3 => repeat (first | exact (Kd.R_reads' HO578.out).2.2 | (with_reducible refine Kd.C_alloc ?_ _) | (with_reducible refine Kd.C_drewN ?_ _) | (with_reducible refine Kd.C_drew ?_)))
 (case side4 => exact (Kd.R_reads' HO578.out).2.1)
 rintro e w' ⟨rfl, ⟨nd, rfl⟩⟩
 refine ⟨_, rfl, ?_⟩
 refine hK.out _ _ csn_ (fun hHeld => ?_)
 clear hK K
 refine norm_ (a' := ?_) ?_ ?_
 rotate_left
 ·show Act.put _ (some 166) _ = _
  exact acq
 refine pu (i := 75) (N := some 167) #[T,T,T,T,T,T,T,T,T,T,T,T,T,T,T,T,T,T,T,T,T,T,T,T,T,T,T,T,T,T,T,T,T,T,T,T,T,T,T,T,T,T,T,T,T,T,T,T,T,T,T,T,T,T,T,T,T,T,T,T,T,T,T,T,T,T,T,T,T,T,T,T,T,T,T,T,F,F,F,F,F,F,F,F] (any_of HT_.out z31_0) ?_
 refine pu (i := 76) (N := some 168) #[T,T,T,T,T,T,T,T,T,T,T,T,T,T,T,T,T,T,T,T,T,T,T,T,T,T,T,T,T,T,T,T,T,T,T,T,T,T,T,T,T,T,T,T,T,T,T,T,T,T,T,T,T,T,T,T,T,T,T,T,T,T,T,T,T,T,T,T,T,T,T,T,T,T,T,T,T,F,F,F,F,F,F,F] (any_of HT_.out z31_0) ?_
 refine pu (i := 77) (N := some 169) #[T,T,T,T,T,T,T,T,T,T,T,T,T,T,T,T,T,T,T,T,T,T,T,T,T,T,T,T,T,T,T,T,T,T,T,T,T,T,T,T,T,T,T,T,T,T,T,T,T,T,T,T,T,T,T,T,T,T,T,T,T,T,T,T,T,T,T,T,T,T,T,T,T,T,T,T,T,T,F,F,F,F,F,F] (any_of HT_.out z31_0) ?_
 refine take_ (i := 78) (N := some 170) (v := ?_) (a' := ?_) #[T,T,T,T,T,T,T,T,T,T,T,T,T,T,T,T,T,T,T,T,T,T,T,T,T,T,T,T,T,T,T,T,T,T,T,T,T,T,T,T,T,T,T,T,T,T,T,T,T,T,T,T,T,T,T,T,T,T,T,T,T,T,T,T,T,T,T,T,T,T,T,T,T,T,T,T,T,T,T,F,F,F,F,F] rfl rfl (take_ofW HT_.out HW_.out z31_0) (fun _ _ _ h => h) (Or.inl ⟨by rfl, ?_⟩) hHeld ?_ ?_
 rotate_left
 ·rintro w' ⟨s0, s1, s2, s3, s4, s5, s6, s7, s8, s9, s10, s11, s12, s13, s14, s15, s16, s17, s18, s19, s20, s21, s22, s23, s24, s25⟩
  go_simp
  with_reducible rfl
 rotate_left
 ·exact acq
 refine take_ (i := 80) (N := some 172) (v := ?_) (a' := ?_) #[T,T,T,T,T,T,T,T,T,T,T,T,T,T,T,T,T,T,T,T,T,T,T,T,T,T,T,T,T,T,T,T,T,T,T,T,T,T,T,T,T,T,T,T,T,T,T,T,T,T,T,T,T,T,T,T,T,T,T,T,T,T,T,T,T,T,T,T,T,T,T,T,T,T,T,T,T,T,T,F,T,F,F,F] rfl rfl (take_ofW HT_.out HW_.out z31_0) (fun _ _ _ h => h) (Or.inl ⟨by rfl, ?_⟩) hHeld ?_ ?_
 rotate_left
 ·rintro w' ⟨s0, s1, s2, s3, s4, s5, s6, s7, s8, s9, s10, s11, s12, s13, s14, s15, s16, s17, s18, s19, s20, s21, s22, s23, s24, s25⟩
  go_simp
  with_reducible rfl
 rotate_left
 ·exact acq
 refine one_ (i := 79) (N := some 171) #[T,T,T,T,T,T,T,T,T,T,T,T,T,T,T,T,T,T,T,T,T,T,T,T,T,T,T,T,T,T,T,T,T,T,T,T,T,T,T,T,T,T,T,T,T,T,T,T,T,T,T,T,T,T,T,T,T,T,T,T,T,T,T,T,T,T,T,T,T,T,T,T,T,T,T,T,T,T,T,T,T,F,F,F] rfl rfl (one_of HT_.out z31_0) (by decide) (fun K hK => ?_)
 refine goes_ Tryd.func7 z31_0 rfl #[.agg #[.int .i64 t501, .int .i64 t502, .int .i64 t503, .int .i64 t504]] (by rfl) rfl rfl ln_31 ?_
 with_reducible refine (impl_MatrixText.calls k t501 t502 t503 t504 t580 _ A42.out).mono ?_
 rintro e w154 ⟨rfl, hb⟩
 refine ⟨_, rfl, ?_⟩
 replace HO575 := Az.mk (Kd.R_below (by (with_reducible repeat (first | apply Kd.R_alloc | apply Kd.R_drewN | apply Kd.R_drew)); exact HO575.out) hb); replace HO578 := Az.mk (Kd.R_below (by (with_reducible repeat (first | apply Kd.R_alloc | apply Kd.R_drewN | apply Kd.R_drew)); exact HO578.out) hb); replace BK509 := bkz BK509 hb; replace BK510 := bkz BK510 hb; replace BK516 := bkz BK516 hb; replace BK522 := bkz BK522 hb; replace BK529 := bkz BK529 hb; replace BK530 := bkz BK530 hb; replace BK534 := bkz BK534 hb; replace BK538 := bkz BK538 hb; replace BK545 := bkz BK545 hb; replace BK551 := bkz BK551 hb; replace BK554 := bkz BK554 hb; replace HB := Az.mk (bwT bw_31 hb)
 (try clear hb)
 (try clear hb2)
 (try clear hk)
 (try clear hi)
 refine hK.out _ _ csn_ (fun hHeld => ?_)
 clear hK K
 refine norm_ (a' := ?_) ?_ ?_
 rotate_left
 ·show Act.put _ (some 171) _ = _
  exact acq
 refine one_ (i := 81) (N := some 173) #[T,T,T,T,T,T,T,T,T,T,T,T,T,T,T,T,T,T,T,T,T,T,T,T,T,T,T,T,T,T,T,T,T,T,T,T,T,T,T,T,T,T,T,T,T,T,T,T,T,T,T,T,T,T,T,T,T,T,T,T,T,T,T,T,T,T,T,T,T,T,T,T,T,T,T,T,T,T,T,T,T,T,F,F] rfl rfl (one_of HT_.out z31_0) (by decide) (fun K hK => ?_)
 refine goes_ Tryd.func5 z31_0 rfl #[.agg #[.int .i64 t501, .int .i64 t502, .int .i64 t503, .int .i64 t504]] (by rfl) rfl rfl ln_31 ?_
 with_reducible refine (spec_MatrixText.calls k t501 t502 t503 t504 t581 _ A43.out).mono ?_
 rintro e w155 ⟨rfl, hb⟩
 refine ⟨_, rfl, ?_⟩
 replace HO575 := Az.mk (Kd.R_below (by (with_reducible repeat (first | apply Kd.R_alloc | apply Kd.R_drewN | apply Kd.R_drew)); exact HO575.out) hb); replace HO578 := Az.mk (Kd.R_below (by (with_reducible repeat (first | apply Kd.R_alloc | apply Kd.R_drewN | apply Kd.R_drew)); exact HO578.out) hb); replace BK509 := bkz BK509 hb; replace BK510 := bkz BK510 hb; replace BK516 := bkz BK516 hb; replace BK522 := bkz BK522 hb; replace BK529 := bkz BK529 hb; replace BK530 := bkz BK530 hb; replace BK534 := bkz BK534 hb; replace BK538 := bkz BK538 hb; replace BK545 := bkz BK545 hb; replace BK551 := bkz BK551 hb; replace BK554 := bkz BK554 hb; replace HB := Az.mk (bwT bw_31 hb)
 (try clear hb)
 (try clear hb2)
 (try clear hk)
 (try clear hi)
 refine hK.out _ _ csn_ (fun hHeld => ?_)
 clear hK K
 refine norm_ (a' := ?_) ?_ ?_
 rotate_left
 ·show Act.put _ (some 173) _ = _
  exact acq
 refine pu (i := 82) (N := some 174) #[T,T,T,T,T,T,T,T,T,T,T,T,T,T,T,T,T,T,T,T,T,T,T,T,T,T,T,T,T,T,T,T,T,T,T,T,T,T,T,T,T,T,T,T,T,T,T,T,T,T,T,T,T,T,T,T,T,T,T,T,T,T,T,T,T,T,T,T,T,T,T,T,T,T,T,T,T,T,T,T,T,T,T,F] (any_of HT_.out z31_0) ?_
 refine pu (i := 83) (N := some 175) #[T,T,T,T,T,T,T,T,T,T,T,T,T,T,T,T,T,T,T,T,T,T,T,T,T,T,T,T,T,T,T,T,T,T,T,T,T,T,T,T,T,T,T,T,T,T,T,T,T,T,T,T,T,T,T,T,T,T,T,T,T,T,T,T,T,T,T,T,T,T,T,T,T,T,T,T,T,T,T,T,T,T,T,T] (any_of HT_.out z31_0) ?_
 refine done_ (done_of HT_.out z31_0) ?_
 repeat clear hHeld
 rename_i Kt at_ K0 a0
 have AT := Az.mk at_
 clear at_
 try clear HW_
 try clear HT_
 go_wp2
 exact AT.out _ _ (laws_FnMatrices.p16 k A0 c0 l0 r w HT t501 t502 t503 t504 t505 t506 t507 t508 t511 t512 t513 t514 t515 t517 t518 t519 t520 t521 t523 t524 t525 t526 t527 t528 t531 t532 t533 t535 t536 t537 t539 t540 t541 t542 t543 t544 t546 t547 t548 t549 t550 t552 t553 t555 t556 t557 t558 t559 t560 t561 t562 t563 t564 t565 t566 t567 t568 t569 t570 t571 t572 t573 t576 t580 t581 HC45 gb509 GE509 gb510 GE510 NB509_510 NB510_509 gb516 GE516 NB509_516 NB516_509 NB510_516 NB516_510 gb522 GE522 NB509_522 NB522_509 NB510_522 NB522_510 NB516_522 NB522_516 gb529 GE529 NB509_529 NB529_509 NB510_529 NB529_510 NB516_529 NB529_516 gb530 GE530 NB509_530 NB530_509 NB510_530 NB530_510 NB516_530 NB530_516 NB522_530 NB530_522 NB529_530 NB530_529 gb534 GE534 NB509_534 NB534_509 NB510_534 NB534_510 NB516_534 NB534_516 NB530_534 NB534_530 gb538 GE538 NB509_538 NB538_509 NB510_538 NB538_510 NB516_538 NB538_516 NB530_538 NB538_530 gb545 GE545 NB509_545 NB545_509 NB510_545 NB545_510 NB516_545 NB545_516 NB530_545 NB545_530 gb551 GE551 NB509_551 NB551_509 NB510_551 NB551_510 NB516_551 NB551_516 NB530_551 NB551_530 gb554 GE554 NB509_554 NB554_509 NB510_554 NB554_510 NB516_554 NB554_516 NB522_554 NB554_522 NB529_554 NB554_529 NB530_554 NB554_530 NB534_554 NB554_534 NB538_554 NB554_538 NB545_554 NB554_545 NB551_554 NB554_551 Ao152 co152 Ao153 co153 w155 HO575 HO578 BK509 BK510 BK516 BK522 BK529 BK530 BK534 BK538 BK545 BK551 BK554 HB)
theorem laws_FnMatrices.walk (P : laws_FnMatrices.Pure) (a0 : Option Addr) (len0 cap0 : Nat) (z0 : List Int) (w : World) (w0 : (a0 = none ∧ len0 = 0 ∧ cap0 = 0 ∧ z0 = []) ∨ ∃ x, a0 = some x ∧ len0 ≤ cap0 ∧ cap0 ≤ maxLen ∧ z0.length = cap0 ∧ (∀ i, i < z0.length → w.cell? (x.add i) = some (.int .u8 (z0.getD i 0))) ∧ ∀ n ∈ z0, (Lit.int .u8 n).wf = true) (y0 : len0 * 1 ≤ 140737488351232) (hT : Tabs w) :
  Calls Tryd.prog 4 #[.slice a0 len0 cap0] w fun e w' => e = .returned (.bool true) ∧ Below w.heap.size w w' := by
 obtain ⟨l0, rfl, hr0, hm0, hw0, hc0⟩ := ReadsInt.ofRowC w0
 obtain ⟨k, h⟩ := P l0 hm0 y0 hw0
 refine (laws_FnMatrices.calls k _ _ l0 true w (Kd.C_of_reads (d := (0 : Int)) (h1 := fun _ => rfl) hr0) hc0 h hT).mono ?_
 rintro e w' ⟨rfl, hd⟩
 exact ⟨rfl, hd⟩

end Go.Proofs.YtnoiijdffdpabaaDoor.P
