-- By this session's driver (wip/tools/mk.py) of the kit's print program, over several statements at once. Not trusted: Lean checks it.
import Derived.Test.YtigcjehokbgclaaQWZip
import Derived.Test.YtigcjehokbgclaaQPx0
import Derived.Test.YtigcjehokbgclaaQPx2
import Derived.Test.YtigcjehokbgclaaQPx5
import Derived.Test.YtigcjehokbgclaaQPx7
import Derived.Test.YtigcjehokbgclaaQPx8
import Derived.Test.YtigcjehokbgclaaQPx9
import Derived.Test.YtigcjehokbgclaaQPx10
import Derived.Test.YtigcjehokbgclaaQPx11
import Derived.Test.YtigcjehokbgclaaQPx12
import Derived.Test.YtigcjehokbgclaaQPx13
import Derived.Test.YtigcjehokbgclaaQPx15
import Derived.Test.YtigcjehokbgclaaQPx16
import Derived.Test.YtigcjehokbgclaaQPx19
import Derived.Test.YtigcjehokbgclaaQPx20
import Derived.Test.YtigcjehokbgclaaQPx22
namespace Go.Proofs.Ytigcjehokbgclaa.P
open Go.RowKit Go.Proofs.YtigcjehokbgclaaW.PrintWords Go.Proofs.YtigcjehokbgclaaW.PrintLast Go.Proofs.YtigcjehokbgclaaW.PrintMore
attribute [local go_sem] max2_int min2_int max_two min_two max_three min_three max_four min_four   -- for this text's walks alone
set_option linter.unusedVariables false
set_option linter.unusedSimpArgs false

attribute [local go_sem high] eqA25
/-! ### laws_FnFarey: function 3 -/
mutual
def laws_FnFarey.j0 : Nat → List Int → Int → List (S25) → List (S25) → List (S25) → Bool → Bool → Int → Int → Int → Int → Int → Int → Int → Int → Int → Int → Int → Int → Option (Bool)
 | 0, _, _, _, _, _, _, _, _, _, _, _, _, _, _, _, _, _, _, _ => none
 | k + 1, x0, x5, x8, x11, x13, x14, x125, x574000, x574001, x575000, x575001, x580000, x580001, x588000, x588001, x589000, x589001, x595000, x595001 => if x125 = true then (none) else (laws_FnFarey.l0 k x0 x5 x8 x11 x13 x14 0 x574000 x574001 x575000 x575001 x580000 x580001 x588000 x588001 x589000 x589001 x595000 x595001)
def laws_FnFarey.l0 : Nat → List Int → Int → List (S25) → List (S25) → List (S25) → Bool → Int → Int → Int → Int → Int → Int → Int → Int → Int → Int → Int → Int → Int → Option (Bool)
 | 0, _, _, _, _, _, _, _, _, _, _, _, _, _, _, _, _, _, _, _ => none
 | k + 1, x0, x5, x8, x11, x13, x14, x17, x574000, x574001, x575000, x575001, x580000, x580001, x588000, x588001, x589000, x589001, x595000, x595001 => if x17 < (x8.length : Int) then (if 0 ≤ x17 then ((spec_CrossNumber.f k ((rd_T25 x8 x17).f0) ((rd_T25 x8 x17).f1) x580000 x580001).bind fun t616 => (if t616 = 1 then ((impl_SlopeDistance.f k ((rd_T25 x8 x17).f0) ((rd_T25 x8 x17).f1) x575000 x575001).bind fun t618 => ((impl_SlopeDistance.f k x580000 x580001 x575000 x575001).bind fun t619 => (if t619 ≥ 0 then (if t618 > (wrap64 (t619 + 1)) then (none) else (if t618 < (wrap64 (t619 - 1)) then (none) else (laws_FnFarey.l0 k x0 x5 x8 x11 x13 x14 (wrap64 (x17 + 1)) x574000 x574001 x575000 x575001 x580000 x580001 x588000 x588001 x589000 x589001 x595000 x595001))) else (laws_FnFarey.l0 k x0 x5 x8 x11 x13 x14 (wrap64 (x17 + 1)) x574000 x574001 x575000 x575001 x580000 x580001 x588000 x588001 x589000 x589001 x595000 x595001)))) else (none))) else (none)) else (if (x11.length : Int) = 2 then (if 0 < (x11.length : Int) then (if 1 < (x11.length : Int) then ((spec_CrossNumber.f k ((rd_T25 x11 0).f0) ((rd_T25 x11 0).f1) ((rd_T25 x11 1).f0) ((rd_T25 x11 1).f1)).bind fun t622 => (if t622 = 2 then ((spec_CrossNumber.f k ((rd_T25 x11 0).f0) ((rd_T25 x11 0).f1) x588000 x588001).bind fun t624 => (if t624 = 1 then ((spec_CrossNumber.f k ((rd_T25 x11 1).f0) ((rd_T25 x11 1).f1) x589000 x589001).bind fun t626 => (laws_FnFarey.j2 k x0 x5 x13 x14 (t626 != 1) x574000 x574001 x575000 x575001 x595000 x595001)) else (none))) else (none))) else (none)) else (none)) else (laws_FnFarey.j2 k x0 x5 x13 x14 false x574000 x574001 x575000 x575001 x595000 x595001))
def laws_FnFarey.j2 : Nat → List Int → Int → List (S25) → Bool → Bool → Int → Int → Int → Int → Int → Int → Option (Bool)
 | 0, _, _, _, _, _, _, _, _, _, _, _ => none
 | k + 1, x0, x5, x13, x14, x190, x574000, x574001, x575000, x575001, x595000, x595001 => if x190 = true then (none) else (if x14 = true then (if 0 < (x13.length : Int) then (if 1 < (x13.length : Int) then ((spec_SumSlope.f k ((rd_T25 x13 0).f0) ((rd_T25 x13 0).f1) ((rd_T25 x13 1).f0) ((rd_T25 x13 1).f1)).bind fun bt629 => (if bt629.2.2 = true then (if (!(bt629.1 == x595000) || (!(bt629.2.1 == x595001))) = true then (none) else (if (wrap64 (((rd_T25 x13 0).f1) + ((rd_T25 x13 1).f1))) = x595001 then (laws_FnFarey.j3 k x0 x5 x574000 x574001 x575000 x575001) else (none))) else (none))) else (none)) else (none)) else (laws_FnFarey.j3 k x0 x5 x574000 x574001 x575000 x575001))
def laws_FnFarey.j3 : Nat → List Int → Int → Int → Int → Int → Int → Option (Bool)
 | 0, _, _, _, _, _, _ => none
 | k + 1, x0, x5, x574000, x574001, x575000, x575001 => (spec_DrawMoveSlope.f k x0).bind fun bt635 => ((spec_MoveSlope.f k bt635.1 bt635.2.1 bt635.2.2.1 bt635.2.2.2.1 x574000 x574001).bind fun bt643 => ((spec_MoveSlope.f k bt635.1 bt635.2.1 bt635.2.2.1 bt635.2.2.2.1 x575000 x575001).bind fun bt647 => (if bt643.2.2 = true then (if bt647.2.2 = true then ((impl_SlopeDistance.f k bt643.1 bt643.2.1 bt647.1 bt647.2.1).bind fun t651 => (laws_FnFarey.j4 k x5 bt643.2.2 (t651 != x5) x574000 x574001 x575000 x575001 bt635.2.2.2.2.1 bt635.2.2.2.2.2)) else (laws_FnFarey.j4 k x5 bt643.2.2 false x574000 x574001 x575000 x575001 bt635.2.2.2.2.1 bt635.2.2.2.2.2)) else (laws_FnFarey.j4 k x5 bt643.2.2 false x574000 x574001 x575000 x575001 bt635.2.2.2.2.1 bt635.2.2.2.2.2))))
def laws_FnFarey.j4 : Nat → Int → Bool → Bool → Int → Int → Int → Int → Int → Int → Option (Bool)
 | 0, _, _, _, _, _, _, _, _, _ => none
 | k + 1, x5, x25, x250, x574000, x574001, x575000, x575001, x643000, x643001 => if x250 = true then (none) else ((spec_IsSlope.f k x643000 x643001).bind fun t652 => (if t652 = true then (if x25 = true then ((laws_magnitude.f x574000).bind fun t653 => (if t653 > 9 then (laws_FnFarey.j5 k x5 true x574000 x574001 x575000 x575001) else (if x574001 > 9 then (laws_FnFarey.j5 k x5 true x574000 x574001 x575000 x575001) else ((laws_magnitude.f x575000).bind fun t654 => (if t654 > 9 then (laws_FnFarey.j5 k x5 true x574000 x574001 x575000 x575001) else (laws_FnFarey.j5 k x5 (decide (x575001 > 9)) x574000 x574001 x575000 x575001)))))) else (laws_FnFarey.j5 k x5 true x574000 x574001 x575000 x575001)) else (laws_FnFarey.j5 k x5 true x574000 x574001 x575000 x575001)))
def laws_FnFarey.j5 : Nat → Int → Bool → Int → Int → Int → Int → Option (Bool)
 | 0, _, _, _, _, _, _ => none
 | k + 1, x5, x279, x574000, x574001, x575000, x575001 => if x279 = true then (some true) else ((impl_StepsBetween.f k x574000 x574001 x575000 x575001).bind fun t655 => ((spec_StepsBetween.f k x574000 x574001 x575000 x575001).bind fun t658 => ((laws_sameSlopes.f k t655 t658).bind fun t661 => (if t661 = true then (laws_FnFarey.l1 k x5 t655 1 x574000 x574001 x575000 x575001) else (none)))))
def laws_FnFarey.l1 : Nat → Int → List (S25) → Int → Int → Int → Int → Int → Option (Bool)
 | 0, _, _, _, _, _, _, _ => none
 | k + 1, x5, x28, x29, x574000, x574001, x575000, x575001 => if x29 < (x28.length : Int) then (if 0 ≤ (wrap64 (x29 - 1)) then (if (wrap64 (x29 - 1)) < (x28.length : Int) then (if 0 ≤ x29 then ((spec_CrossNumber.f k ((rd_T25 x28 (wrap64 (x29 - 1))).f0) ((rd_T25 x28 (wrap64 (x29 - 1))).f1) ((rd_T25 x28 x29).f0) ((rd_T25 x28 x29).f1)).bind fun t664 => (if t664 = 1 then (laws_FnFarey.l1 k x5 x28 (wrap64 (x29 + 1)) x574000 x574001 x575000 x575001) else (none))) else (none)) else (none)) else (none)) else (if (x28.length : Int) = 0 then (some true) else (if (x28.length : Int) = (wrap64 (x5 + 1)) then (if 0 < (x28.length : Int) then (if (((rd_T25 x28 0).f0) == x574000 && (((rd_T25 x28 0).f1) == x574001)) = true then (if 0 ≤ x5 then (if x5 < (x28.length : Int) then (some (((rd_T25 x28 x5).f0) == x575000 && (((rd_T25 x28 x5).f1) == x575001))) else (none)) else (none)) else (none)) else (none)) else (none)))
end
def laws_FnFarey.f (k : Nat) (l0 : List Int) : Option (Bool) := (laws_big.f l0).bind fun t568 => (if t568 = true then (some true) else ((spec_DrawSlopeDistance.f k l0).bind fun bt569 => ((impl_SlopeDistance.f k bt569.1 bt569.2.1 bt569.2.2.1 bt569.2.2.2).bind fun t575 => ((spec_DrawNeighbourSlopes.f k l0).bind fun bt576 => ((impl_NeighbourSlopes.f k bt576.1 bt576.2.1 bt576.2.2).bind fun t580 => ((spec_DrawCommonNeighbours.f k l0).bind fun bt583 => ((impl_CommonNeighbours.f k bt583.1 bt583.2.1 bt583.2.2.1 bt583.2.2.2).bind fun t589 => ((spec_DrawParentsOf.f k l0).bind fun bt592 => ((impl_ParentsOf.f k bt592.1 bt592.2).bind fun bt595 => ((spec_ParentsOf.f k bt592.1 bt592.2).bind fun bt599 => ((spec_SlopeDistance.f k bt569.1 bt569.2.1 bt569.2.2.1 bt569.2.2.2).bind fun t603 => (if t575 = t603 then ((spec_NeighbourSlopes.f k bt576.1 bt576.2.1 bt576.2.2).bind fun t604 => ((laws_sameSlopes.f k t580 t604).bind fun t607 => (if t607 = true then ((spec_CommonNeighbours.f k bt583.1 bt583.2.1 bt583.2.2.1 bt583.2.2.2).bind fun t608 => ((laws_sameSlopes.f k t589 t608).bind fun t611 => (if t611 = true then (if (bt595.2 != bt599.2) = true then (none) else ((laws_sameSlopes.f k bt595.1 bt599.1).bind fun t612 => (if t612 = true then ((impl_SlopeDistance.f k bt569.2.2.1 bt569.2.2.2 bt569.1 bt569.2.1).bind fun t613 => (if t575 = t613 then (if t575 ≥ 0 then (if ((t575 == 0) != (bt569.1 == bt569.2.2.1 && (bt569.2.1 == bt569.2.2.2))) = true then (none) else ((spec_CrossNumber.f k bt569.1 bt569.2.1 bt569.2.2.1 bt569.2.2.2).bind fun t614 => (laws_FnFarey.j0 k l0 t575 t580 t589 bt595.1 bt595.2 ((t575 == 1) != (t614 == 1)) bt569.1 bt569.2.1 bt569.2.2.1 bt569.2.2.2 bt576.1 bt576.2.1 bt583.1 bt583.2.1 bt583.2.2.1 bt583.2.2.2 bt592.1 bt592.2))) else (laws_FnFarey.j0 k l0 t575 t580 t589 bt595.1 bt595.2 false bt569.1 bt569.2.1 bt569.2.2.1 bt569.2.2.2 bt576.1 bt576.2.1 bt583.1 bt583.2.1 bt583.2.2.1 bt583.2.2.2 bt592.1 bt592.2)) else (none))) else (none)))) else (none)))) else (none)))) else (none)))))))))))))
theorem laws_FnFarey.mono_l : ∀ k, (∀ y0 y1 y2 y3 y4 y5 y6 y7 y8 y9 y10 y11 y12 y13 y14 y15 y16 y17 y18, LeO (laws_FnFarey.j0 k y0 y1 y2 y3 y4 y5 y6 y7 y8 y9 y10 y11 y12 y13 y14 y15 y16 y17 y18) (laws_FnFarey.j0 (k + 1) y0 y1 y2 y3 y4 y5 y6 y7 y8 y9 y10 y11 y12 y13 y14 y15 y16 y17 y18)) ∧ (∀ y0 y1 y2 y3 y4 y5 y6 y7 y8 y9 y10 y11 y12 y13 y14 y15 y16 y17 y18, LeO (laws_FnFarey.l0 k y0 y1 y2 y3 y4 y5 y6 y7 y8 y9 y10 y11 y12 y13 y14 y15 y16 y17 y18) (laws_FnFarey.l0 (k + 1) y0 y1 y2 y3 y4 y5 y6 y7 y8 y9 y10 y11 y12 y13 y14 y15 y16 y17 y18)) ∧ (∀ y0 y1 y2 y3 y4 y5 y6 y7 y8 y9 y10, LeO (laws_FnFarey.j2 k y0 y1 y2 y3 y4 y5 y6 y7 y8 y9 y10) (laws_FnFarey.j2 (k + 1) y0 y1 y2 y3 y4 y5 y6 y7 y8 y9 y10)) ∧ (∀ y0 y1 y2 y3 y4 y5, LeO (laws_FnFarey.j3 k y0 y1 y2 y3 y4 y5) (laws_FnFarey.j3 (k + 1) y0 y1 y2 y3 y4 y5)) ∧ (∀ y0 y1 y2 y3 y4 y5 y6 y7 y8, LeO (laws_FnFarey.j4 k y0 y1 y2 y3 y4 y5 y6 y7 y8) (laws_FnFarey.j4 (k + 1) y0 y1 y2 y3 y4 y5 y6 y7 y8)) ∧ (∀ y0 y1 y2 y3 y4 y5, LeO (laws_FnFarey.j5 k y0 y1 y2 y3 y4 y5) (laws_FnFarey.j5 (k + 1) y0 y1 y2 y3 y4 y5)) ∧ (∀ y0 y1 y2 y3 y4 y5 y6, LeO (laws_FnFarey.l1 k y0 y1 y2 y3 y4 y5 y6) (laws_FnFarey.l1 (k + 1) y0 y1 y2 y3 y4 y5 y6))
 | 0 => ⟨fun _ _ _ _ _ _ _ _ _ _ _ _ _ _ _ _ _ _ _ r h => by simp [laws_FnFarey.j0] at h, fun _ _ _ _ _ _ _ _ _ _ _ _ _ _ _ _ _ _ _ r h => by simp [laws_FnFarey.l0] at h, fun _ _ _ _ _ _ _ _ _ _ _ r h => by simp [laws_FnFarey.j2] at h, fun _ _ _ _ _ _ r h => by simp [laws_FnFarey.j3] at h, fun _ _ _ _ _ _ _ _ _ r h => by simp [laws_FnFarey.j4] at h, fun _ _ _ _ _ _ r h => by simp [laws_FnFarey.j5] at h, fun _ _ _ _ _ _ _ r h => by simp [laws_FnFarey.l1] at h⟩
 | k + 1 => by
  obtain ⟨ih0, ih1, ih2, ih3, ih4, ih5, ih6⟩ := laws_FnFarey.mono_l k
  have i0 := fun z0 z1 z2 z3 z4 z5 z6 z7 z8 z9 z10 z11 z12 z13 z14 z15 z16 z17 z18 => MoO.mk (ih0 z0 z1 z2 z3 z4 z5 z6 z7 z8 z9 z10 z11 z12 z13 z14 z15 z16 z17 z18)
  have i1 := fun z0 z1 z2 z3 z4 z5 z6 z7 z8 z9 z10 z11 z12 z13 z14 z15 z16 z17 z18 => MoO.mk (ih1 z0 z1 z2 z3 z4 z5 z6 z7 z8 z9 z10 z11 z12 z13 z14 z15 z16 z17 z18)
  have i2 := fun z0 z1 z2 z3 z4 z5 z6 z7 z8 z9 z10 => MoO.mk (ih2 z0 z1 z2 z3 z4 z5 z6 z7 z8 z9 z10)
  have i3 := fun z0 z1 z2 z3 z4 z5 => MoO.mk (ih3 z0 z1 z2 z3 z4 z5)
  have i4 := fun z0 z1 z2 z3 z4 z5 z6 z7 z8 => MoO.mk (ih4 z0 z1 z2 z3 z4 z5 z6 z7 z8)
  have i5 := fun z0 z1 z2 z3 z4 z5 => MoO.mk (ih5 z0 z1 z2 z3 z4 z5)
  have i6 := fun z0 z1 z2 z3 z4 z5 z6 => MoO.mk (ih6 z0 z1 z2 z3 z4 z5 z6)
  refine ⟨?_, ?_, ?_, ?_, ?_, ?_, ?_⟩
  ·intro y0 y1 y2 y3 y4 y5 y6 y7 y8 y9 y10 y11 y12 y13 y14 y15 y16 y17 y18
   unfold laws_FnFarey.j0
   exact mo_
  ·intro y0 y1 y2 y3 y4 y5 y6 y7 y8 y9 y10 y11 y12 y13 y14 y15 y16 y17 y18
   unfold laws_FnFarey.l0
   exact mo_
  ·intro y0 y1 y2 y3 y4 y5 y6 y7 y8 y9 y10
   unfold laws_FnFarey.j2
   exact mo_
  ·intro y0 y1 y2 y3 y4 y5
   unfold laws_FnFarey.j3
   exact mo_
  ·intro y0 y1 y2 y3 y4 y5 y6 y7 y8
   unfold laws_FnFarey.j4
   exact mo_
  ·intro y0 y1 y2 y3 y4 y5
   unfold laws_FnFarey.j5
   exact mo_
  intro y0 y1 y2 y3 y4 y5 y6
  unfold laws_FnFarey.l1
  exact mo_
theorem laws_FnFarey.mono : ∀ a0 k, LeO (laws_FnFarey.f k a0) (laws_FnFarey.f (k + 1) a0) := by
 intro a0 k
 obtain ⟨ih0, ih1, ih2, ih3, ih4, ih5, ih6⟩ := laws_FnFarey.mono_l k
 have i0 := fun z0 z1 z2 z3 z4 z5 z6 z7 z8 z9 z10 z11 z12 z13 z14 z15 z16 z17 z18 => MoO.mk (ih0 z0 z1 z2 z3 z4 z5 z6 z7 z8 z9 z10 z11 z12 z13 z14 z15 z16 z17 z18)
 have i1 := fun z0 z1 z2 z3 z4 z5 z6 z7 z8 z9 z10 z11 z12 z13 z14 z15 z16 z17 z18 => MoO.mk (ih1 z0 z1 z2 z3 z4 z5 z6 z7 z8 z9 z10 z11 z12 z13 z14 z15 z16 z17 z18)
 have i2 := fun z0 z1 z2 z3 z4 z5 z6 z7 z8 z9 z10 => MoO.mk (ih2 z0 z1 z2 z3 z4 z5 z6 z7 z8 z9 z10)
 have i3 := fun z0 z1 z2 z3 z4 z5 => MoO.mk (ih3 z0 z1 z2 z3 z4 z5)
 have i4 := fun z0 z1 z2 z3 z4 z5 z6 z7 z8 => MoO.mk (ih4 z0 z1 z2 z3 z4 z5 z6 z7 z8)
 have i5 := fun z0 z1 z2 z3 z4 z5 => MoO.mk (ih5 z0 z1 z2 z3 z4 z5)
 have i6 := fun z0 z1 z2 z3 z4 z5 z6 => MoO.mk (ih6 z0 z1 z2 z3 z4 z5 z6)
 unfold laws_FnFarey.f
 exact mo_
instance laws_FnFarey.mi {a0 k} : MoO (laws_FnFarey.f k a0) (laws_FnFarey.f (k + 1) a0) := ⟨laws_FnFarey.mono _ _⟩
def laws_FnFarey.Pure : Prop := ∀ (l0 : List Int), l0.length ≤ maxLen → l0.length * 1 ≤ 140737488351232 → (∀ x ∈ l0, (Lit.int .u8 x).wf = true) → ∃ k, laws_FnFarey.f k l0 = some true
end Go.Proofs.Ytigcjehokbgclaa.P
