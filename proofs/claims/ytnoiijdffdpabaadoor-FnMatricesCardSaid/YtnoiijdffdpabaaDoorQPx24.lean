-- By this session's driver (wip/tools/mk.py) of the kit's print program, over several statements at once. Not trusted: Lean checks it.
import Derived.Test.YtnoiijdffdpabaaDoorQWZip
import Derived.Test.YtnoiijdffdpabaaDoorQPx0
import Derived.Test.YtnoiijdffdpabaaDoorQPx2
import Derived.Test.YtnoiijdffdpabaaDoorQPx5
import Derived.Test.YtnoiijdffdpabaaDoorQPx6
import Derived.Test.YtnoiijdffdpabaaDoorQPx9
import Derived.Test.YtnoiijdffdpabaaDoorQPx10
import Derived.Test.YtnoiijdffdpabaaDoorQPx11
import Derived.Test.YtnoiijdffdpabaaDoorQPx12
import Derived.Test.YtnoiijdffdpabaaDoorQPx14
import Derived.Test.YtnoiijdffdpabaaDoorQPx15
import Derived.Test.YtnoiijdffdpabaaDoorQPx16
import Derived.Test.YtnoiijdffdpabaaDoorQPx17
import Derived.Test.YtnoiijdffdpabaaDoorQPx18
import Derived.Test.YtnoiijdffdpabaaDoorQPx19
import Derived.Test.YtnoiijdffdpabaaDoorQPx20
import Derived.Test.YtnoiijdffdpabaaDoorQPx21
import Derived.Test.YtnoiijdffdpabaaDoorQPx22
import Derived.Test.YtnoiijdffdpabaaDoorQPx23
namespace Go.Proofs.YtnoiijdffdpabaaDoor.P
open Go.RowKit Go.Proofs.YtnoiijdffdpabaaDoorW.PrintWords Go.Proofs.YtnoiijdffdpabaaDoorW.PrintLast Go.Proofs.YtnoiijdffdpabaaDoorW.PrintMore
attribute [local go_sem] max2_int min2_int max_two min_two max_three min_three max_four min_four   -- for this text's walks alone
set_option linter.unusedVariables false
set_option linter.unusedSimpArgs false

attribute [local go_sem high] eqA25 eqA35
/-! ### laws_FnMatrices: function 4 -/
mutual
def laws_FnMatrices.j0 : Nat → Bool → ByteArray → Int → Int → Int → Int → Int → Int → Int → Int → Int → Int → Int → Int → Int → Int → Option (Bool)
 | 0, _, _, _, _, _, _, _, _, _, _, _, _, _, _, _, _ => none
 | k + 1, x12, x21, x510000, x510001, x510002, x510003, x530000, x530001, x530002, x530003, x531000, x531001, x535000, x535001, x555000, x555001 => if x12 = true then ((impl_InverseMatrix.f k x530000 x530001 x530002 x530003).bind fun bt594 => ((impl_MoveSlope.f k bt594.1 bt594.2.1 bt594.2.2.1 bt594.2.2.2 x535000 x535001).bind fun bt598 => (if bt598.2.2 = true then (if (!(bt598.1 == x531000) || (!(bt598.2.1 == x531001))) = true then (none) else (laws_FnMatrices.j1 k x21 x510000 x510001 x510002 x510003 x555000 x555001)) else (none)))) else (laws_FnMatrices.j1 k x21 x510000 x510001 x510002 x510003 x555000 x555001)
def laws_FnMatrices.j1 : Nat → ByteArray → Int → Int → Int → Int → Int → Int → Option (Bool)
 | 0, _, _, _, _, _, _, _ => none
 | k + 1, x21, x510000, x510001, x510002, x510003, x555000, x555001 => if x21.toList = ([] : List UInt8) then (laws_FnMatrices.j2 k x510000 x510001 x510002 x510003) else ((impl_TurnsOf.f k x21).bind fun bt602 => ((impl_MoveSlope.f k bt602.1 bt602.2.1 bt602.2.2.1 bt602.2.2.2.1 1 1).bind fun bt608 => (if bt602.2.2.2.2 = true then (if bt608.2.2 = true then (if (!(bt608.1 == x555000) || (!(bt608.2.1 == x555001))) = true then (none) else (laws_FnMatrices.j2 k x510000 x510001 x510002 x510003)) else (none)) else (laws_FnMatrices.j2 k x510000 x510001 x510002 x510003))))
def laws_FnMatrices.j2 : Nat → Int → Int → Int → Int → Option (Bool)
 | 0, _, _, _, _ => none
 | k + 1, x510000, x510001, x510002, x510003 => (spec_IsMatrix.f k x510000 x510001 x510002 x510003).bind fun t612 => (if t612 = true then ((impl_FixedSlopes.f k x510000 x510001 x510002 x510003).bind fun t615 => (laws_FnMatrices.l0 k t615 0 x510000 x510001 x510002 x510003)) else ((impl_KindOf.f k x510000 x510001 x510002 x510003).bind fun t613 => (if t613.toList = ([] : List UInt8) then ((impl_OrderOf.f k x510000 x510001 x510002 x510003).bind fun t614 => (some (t614 == (-1)))) else (none))))
def laws_FnMatrices.l0 : Nat → List (S35) → Int → Int → Int → Int → Int → Option (Bool)
 | 0, _, _, _, _, _, _ => none
 | k + 1, x34, x35, x510000, x510001, x510002, x510003 => if x35 < (x34.length : Int) then (if 0 ≤ x35 then ((impl_MoveSlope.f k x510000 x510001 x510002 x510003 ((rd_T35 x34 x35).f0) ((rd_T35 x34 x35).f1)).bind fun bt619 => (if bt619.2.2 = true then (if (!(bt619.1 == ((rd_T35 x34 x35).f0)) || (!(bt619.2.1 == ((rd_T35 x34 x35).f1)))) = true then (none) else (laws_FnMatrices.l0 k x34 (wrap64 (x35 + 1)) x510000 x510001 x510002 x510003)) else (none))) else (none)) else ((impl_InverseMatrix.f k x510000 x510001 x510002 x510003).bind fun bt624 => ((impl_TimesMatrix.f k x510000 x510001 x510002 x510003 bt624.1 bt624.2.1 bt624.2.2.1 bt624.2.2.2).bind fun bt628 => (if bt628.2.2.2.2 = true then (if (bt628.1 == 1 && (bt628.2.1 == 0 && (bt628.2.2.1 == 0 && (bt628.2.2.2.1 == 1)))) = true then ((impl_OrderOf.f k x510000 x510001 x510002 x510003).bind fun t634 => ((impl_KindOf.f k x510000 x510001 x510002 x510003).bind fun t635 => (if t635.toList = ([105, 100, 101, 110, 116, 105, 116, 121] : List UInt8) then (if ((decide (t634 > 0)) == true) = true then ((impl_KindOf.f k x510000 x510001 x510002 x510003).bind fun t636 => (some (((x34.length : Int) == 1) == (t636.toList == ([116, 119, 105, 115, 116] : List UInt8))))) else (none)) else ((impl_KindOf.f k x510000 x510001 x510002 x510003).bind fun t637 => (if ((decide (t634 > 0)) == (t637.toList == ([112, 101, 114, 105, 111, 100, 105, 99] : List UInt8))) = true then ((impl_KindOf.f k x510000 x510001 x510002 x510003).bind fun t638 => (some (((x34.length : Int) == 1) == (t638.toList == ([116, 119, 105, 115, 116] : List UInt8))))) else (none)))))) else (none)) else (none))))
end
def laws_FnMatrices.f (k : Nat) (l0 : List Int) : Option (Bool) := (laws_big.f l0).bind fun t500 => (if t500 = true then (some true) else ((spec_DrawTimesMatrix.f k l0).bind fun bt501 => ((impl_TimesMatrix.f k bt501.1 bt501.2.1 bt501.2.2.1 bt501.2.2.2.1 bt501.2.2.2.2.1 bt501.2.2.2.2.2.1 bt501.2.2.2.2.2.2.1 bt501.2.2.2.2.2.2.2).bind fun bt511 => ((spec_TimesMatrix.f k bt501.1 bt501.2.1 bt501.2.2.1 bt501.2.2.2.1 bt501.2.2.2.2.1 bt501.2.2.2.2.2.1 bt501.2.2.2.2.2.2.1 bt501.2.2.2.2.2.2.2).bind fun bt517 => ((spec_DrawMoveSlope.f k l0).bind fun bt523 => ((impl_MoveSlope.f k bt523.1 bt523.2.1 bt523.2.2.1 bt523.2.2.2.1 bt523.2.2.2.2.1 bt523.2.2.2.2.2).bind fun bt531 => ((spec_MoveSlope.f k bt523.1 bt523.2.1 bt523.2.2.1 bt523.2.2.2.1 bt523.2.2.2.2.1 bt523.2.2.2.2.2).bind fun bt535 => ((spec_DrawTurnsOf.f k l0).bind fun t539 => ((impl_TurnsOf.f k t539).bind fun bt540 => ((spec_TurnsOf.f k t539).bind fun bt546 => ((spec_DrawTurnsTo.f k l0).bind fun bt552 => ((impl_TurnsTo.f k bt552.1 bt552.2).bind fun t555 => (if (bt511.2.2.2.2 != bt517.2.2.2.2) = true then (none) else (if (!(bt511.1 == bt517.1) || (!(bt511.2.1 == bt517.2.1) || (!(bt511.2.2.1 == bt517.2.2.1) || (!(bt511.2.2.2.1 == bt517.2.2.2.1))))) = true then (none) else (if (bt531.2.2 != bt535.2.2) = true then (none) else (if (!(bt531.1 == bt535.1) || (!(bt531.2.1 == bt535.2.1))) = true then (none) else (if (bt540.2.2.2.2 != bt546.2.2.2.2) = true then (none) else (if (!(bt540.1 == bt546.1) || (!(bt540.2.1 == bt546.2.1) || (!(bt540.2.2.1 == bt546.2.2.1) || (!(bt540.2.2.2.1 == bt546.2.2.2.1))))) = true then (none) else ((spec_TurnsTo.f k bt552.1 bt552.2).bind fun t556 => (if t555.toList = t556.toList then ((impl_IsMatrix.f k bt501.1 bt501.2.1 bt501.2.2.1 bt501.2.2.2.1).bind fun t557 => ((spec_IsMatrix.f k bt501.1 bt501.2.1 bt501.2.2.1 bt501.2.2.2.1).bind fun t558 => (if (t557 != t558) = true then (none) else ((impl_InverseMatrix.f k bt501.1 bt501.2.1 bt501.2.2.1 bt501.2.2.2.1).bind fun bt559 => ((spec_InverseMatrix.f k bt501.1 bt501.2.1 bt501.2.2.1 bt501.2.2.2.1).bind fun bt563 => (if (!(bt559.1 == bt563.1) || (!(bt559.2.1 == bt563.2.1) || (!(bt559.2.2.1 == bt563.2.2.1) || (!(bt559.2.2.2 == bt563.2.2.2))))) = true then (none) else ((impl_TraceOf.f k bt501.1 bt501.2.1 bt501.2.2.1 bt501.2.2.2.1).bind fun t567 => ((spec_TraceOf.f k bt501.1 bt501.2.1 bt501.2.2.1 bt501.2.2.2.1).bind fun t568 => (if t567 = t568 then ((impl_KindOf.f k bt501.1 bt501.2.1 bt501.2.2.1 bt501.2.2.2.1).bind fun t569 => ((spec_KindOf.f k bt501.1 bt501.2.1 bt501.2.2.1 bt501.2.2.2.1).bind fun t570 => (if t569.toList = t570.toList then ((impl_OrderOf.f k bt501.1 bt501.2.1 bt501.2.2.1 bt501.2.2.2.1).bind fun t571 => ((spec_OrderOf.f k bt501.1 bt501.2.1 bt501.2.2.1 bt501.2.2.2.1).bind fun t572 => (if t571 = t572 then ((impl_FixedSlopes.f k bt501.1 bt501.2.1 bt501.2.2.1 bt501.2.2.2.1).bind fun t573 => ((spec_FixedSlopes.f k bt501.1 bt501.2.1 bt501.2.2.1 bt501.2.2.2.1).bind fun t576 => ((laws_sameSlopes.f k t573 t576).bind fun t579 => (if t579 = true then ((impl_MatrixText.f k bt501.1 bt501.2.1 bt501.2.2.1 bt501.2.2.2.1).bind fun t580 => ((spec_MatrixText.f k bt501.1 bt501.2.1 bt501.2.2.1 bt501.2.2.2.1).bind fun t581 => (if t580.toList = t581.toList then (if bt511.2.2.2.2 = true then ((impl_MoveSlope.f k bt501.2.2.2.2.1 bt501.2.2.2.2.2.1 bt501.2.2.2.2.2.2.1 bt501.2.2.2.2.2.2.2 bt523.2.2.2.2.1 bt523.2.2.2.2.2).bind fun bt582 => ((impl_MoveSlope.f k bt501.1 bt501.2.1 bt501.2.2.1 bt501.2.2.2.1 bt582.1 bt582.2.1).bind fun bt586 => ((impl_MoveSlope.f k bt511.1 bt511.2.1 bt511.2.2.1 bt511.2.2.2.1 bt523.2.2.2.2.1 bt523.2.2.2.2.2).bind fun bt590 => (if bt582.2.2 = true then (if bt586.2.2 = true then (if bt590.2.2 = true then (if (!(bt586.1 == bt590.1) || (!(bt586.2.1 == bt590.2.1))) = true then (none) else (laws_FnMatrices.j0 k bt531.2.2 t555 bt501.1 bt501.2.1 bt501.2.2.1 bt501.2.2.2.1 bt523.1 bt523.2.1 bt523.2.2.1 bt523.2.2.2.1 bt523.2.2.2.2.1 bt523.2.2.2.2.2 bt531.1 bt531.2.1 bt552.1 bt552.2)) else (laws_FnMatrices.j0 k bt531.2.2 t555 bt501.1 bt501.2.1 bt501.2.2.1 bt501.2.2.2.1 bt523.1 bt523.2.1 bt523.2.2.1 bt523.2.2.2.1 bt523.2.2.2.2.1 bt523.2.2.2.2.2 bt531.1 bt531.2.1 bt552.1 bt552.2)) else (laws_FnMatrices.j0 k bt531.2.2 t555 bt501.1 bt501.2.1 bt501.2.2.1 bt501.2.2.2.1 bt523.1 bt523.2.1 bt523.2.2.1 bt523.2.2.2.1 bt523.2.2.2.2.1 bt523.2.2.2.2.2 bt531.1 bt531.2.1 bt552.1 bt552.2)) else (laws_FnMatrices.j0 k bt531.2.2 t555 bt501.1 bt501.2.1 bt501.2.2.1 bt501.2.2.2.1 bt523.1 bt523.2.1 bt523.2.2.1 bt523.2.2.2.1 bt523.2.2.2.2.1 bt523.2.2.2.2.2 bt531.1 bt531.2.1 bt552.1 bt552.2))))) else (laws_FnMatrices.j0 k bt531.2.2 t555 bt501.1 bt501.2.1 bt501.2.2.1 bt501.2.2.2.1 bt523.1 bt523.2.1 bt523.2.2.1 bt523.2.2.2.1 bt523.2.2.2.2.1 bt523.2.2.2.2.2 bt531.1 bt531.2.1 bt552.1 bt552.2)) else (none)))) else (none))))) else (none)))) else (none)))) else (none)))))))))) else (none)))))))))))))))))))))
theorem laws_FnMatrices.mono_l : ∀ k, (∀ y0 y1 y2 y3 y4 y5 y6 y7 y8 y9 y10 y11 y12 y13 y14 y15, LeO (laws_FnMatrices.j0 k y0 y1 y2 y3 y4 y5 y6 y7 y8 y9 y10 y11 y12 y13 y14 y15) (laws_FnMatrices.j0 (k + 1) y0 y1 y2 y3 y4 y5 y6 y7 y8 y9 y10 y11 y12 y13 y14 y15)) ∧ (∀ y0 y1 y2 y3 y4 y5 y6, LeO (laws_FnMatrices.j1 k y0 y1 y2 y3 y4 y5 y6) (laws_FnMatrices.j1 (k + 1) y0 y1 y2 y3 y4 y5 y6)) ∧ (∀ y0 y1 y2 y3, LeO (laws_FnMatrices.j2 k y0 y1 y2 y3) (laws_FnMatrices.j2 (k + 1) y0 y1 y2 y3)) ∧ (∀ y0 y1 y2 y3 y4 y5, LeO (laws_FnMatrices.l0 k y0 y1 y2 y3 y4 y5) (laws_FnMatrices.l0 (k + 1) y0 y1 y2 y3 y4 y5))
 | 0 => ⟨fun _ _ _ _ _ _ _ _ _ _ _ _ _ _ _ _ r h => by simp [laws_FnMatrices.j0] at h, fun _ _ _ _ _ _ _ r h => by simp [laws_FnMatrices.j1] at h, fun _ _ _ _ r h => by simp [laws_FnMatrices.j2] at h, fun _ _ _ _ _ _ r h => by simp [laws_FnMatrices.l0] at h⟩
 | k + 1 => by
  obtain ⟨ih0, ih1, ih2, ih3⟩ := laws_FnMatrices.mono_l k
  have i0 := fun z0 z1 z2 z3 z4 z5 z6 z7 z8 z9 z10 z11 z12 z13 z14 z15 => MoO.mk (ih0 z0 z1 z2 z3 z4 z5 z6 z7 z8 z9 z10 z11 z12 z13 z14 z15)
  have i1 := fun z0 z1 z2 z3 z4 z5 z6 => MoO.mk (ih1 z0 z1 z2 z3 z4 z5 z6)
  have i2 := fun z0 z1 z2 z3 => MoO.mk (ih2 z0 z1 z2 z3)
  have i3 := fun z0 z1 z2 z3 z4 z5 => MoO.mk (ih3 z0 z1 z2 z3 z4 z5)
  refine ⟨?_, ?_, ?_, ?_⟩
  ·intro y0 y1 y2 y3 y4 y5 y6 y7 y8 y9 y10 y11 y12 y13 y14 y15
   unfold laws_FnMatrices.j0
   exact mo_
  ·intro y0 y1 y2 y3 y4 y5 y6
   unfold laws_FnMatrices.j1
   exact mo_
  ·intro y0 y1 y2 y3
   unfold laws_FnMatrices.j2
   exact mo_
  intro y0 y1 y2 y3 y4 y5
  unfold laws_FnMatrices.l0
  exact mo_
theorem laws_FnMatrices.mono : ∀ a0 k, LeO (laws_FnMatrices.f k a0) (laws_FnMatrices.f (k + 1) a0) := by
 intro a0 k
 obtain ⟨ih0, ih1, ih2, ih3⟩ := laws_FnMatrices.mono_l k
 have i0 := fun z0 z1 z2 z3 z4 z5 z6 z7 z8 z9 z10 z11 z12 z13 z14 z15 => MoO.mk (ih0 z0 z1 z2 z3 z4 z5 z6 z7 z8 z9 z10 z11 z12 z13 z14 z15)
 have i1 := fun z0 z1 z2 z3 z4 z5 z6 => MoO.mk (ih1 z0 z1 z2 z3 z4 z5 z6)
 have i2 := fun z0 z1 z2 z3 => MoO.mk (ih2 z0 z1 z2 z3)
 have i3 := fun z0 z1 z2 z3 z4 z5 => MoO.mk (ih3 z0 z1 z2 z3 z4 z5)
 unfold laws_FnMatrices.f
 exact mo_
instance laws_FnMatrices.mi {a0 k} : MoO (laws_FnMatrices.f k a0) (laws_FnMatrices.f (k + 1) a0) := ⟨laws_FnMatrices.mono _ _⟩
def laws_FnMatrices.Pure : Prop := ∀ (l0 : List Int), l0.length ≤ maxLen → l0.length * 1 ≤ 140737488351232 → (∀ x ∈ l0, (Lit.int .u8 x).wf = true) → ∃ k, laws_FnMatrices.f k l0 = some true
end Go.Proofs.YtnoiijdffdpabaaDoor.P
