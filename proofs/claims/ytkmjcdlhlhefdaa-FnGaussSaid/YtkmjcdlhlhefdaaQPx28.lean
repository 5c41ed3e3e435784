-- The walks (printed by mk.py's driver of the kit's print program, cut by prune.py and sq2.py), laid together by join.py. Not trusted: Lean checks it.
import Derived.Test.YtkmjcdlhlhefdaaQWZip
import Derived.Test.YtkmjcdlhlhefdaaQPx0
import Derived.Test.YtkmjcdlhlhefdaaQPx1
import Derived.Test.YtkmjcdlhlhefdaaQPx2
import Derived.Test.YtkmjcdlhlhefdaaQPx5
import Derived.Test.YtkmjcdlhlhefdaaQPx10
import Derived.Test.YtkmjcdlhlhefdaaQPx12
import Derived.Test.YtkmjcdlhlhefdaaQPx15
import Derived.Test.YtkmjcdlhlhefdaaQPx16
import Derived.Test.YtkmjcdlhlhefdaaQPx17
import Derived.Test.YtkmjcdlhlhefdaaQPx18
import Derived.Test.YtkmjcdlhlhefdaaQPx21
import Derived.Test.YtkmjcdlhlhefdaaQPx22
import Derived.Test.YtkmjcdlhlhefdaaQPx23
import Derived.Test.YtkmjcdlhlhefdaaQPx24
import Derived.Test.YtkmjcdlhlhefdaaQPx25
import Derived.Test.YtkmjcdlhlhefdaaQPx26
namespace Go.Proofs.Ytkmjcdlhlhefdaa.P
open Go.RowKit Go.Proofs.YtkmjcdlhlhefdaaW.PrintWords Go.Proofs.YtkmjcdlhlhefdaaW.PrintLast Go.Proofs.YtkmjcdlhlhefdaaW.PrintMore
attribute [local go_sem] max2_int min2_int max_two min_two max_three min_three max_four min_four   -- for this text's walks alone
set_option linter.unusedVariables false
set_option linter.unusedSimpArgs false

/-! ### laws_FnGauss: function 3 -/
mutual
def laws_FnGauss.j0 : Nat → List Int → Int → List Int → List Int → Bool → List Int → List Int → Bool → Option (Bool)
 | 0, _, _, _, _, _, _, _, _ => none
 | k + 1, x3, x4, x14, x16, x17, x20, x21, x168 => if x168 = true then (none) else (if x17 = true then ((spec_IsCrossingWord.f k x16).bind fun t669 => (if t669 = true then (laws_FnGauss.j1 k x3 x4 x20 x21 ((x16.length : Int) != (wrap64 ((x14.length : Int) - 2)))) else (none))) else (laws_FnGauss.j1 k x3 x4 x20 x21 false))
def laws_FnGauss.j1 : Nat → List Int → Int → List Int → List Int → Bool → Option (Bool)
 | 0, _, _, _, _, _ => none
 | k + 1, x3, x4, x20, x21, x182 => if x182 = true then (none) else ((spec_IsCrossingWord.f k x3).bind fun t670 => (if t670 = true then (laws_FnGauss.l0 k x3 x4 x20 x21 0) else (if x4 = (-1) then (some ((x20.length : Int) == 0)) else (none))))
def laws_FnGauss.j4 : Nat → List Int → Int → List Int → List Int → Option (Bool)
 | 0, _, _, _, _ => none
 | k + 1, x3, x4, x20, x21 => (laws_total.f k x20).bind fun t672 => (if (Int.tmod t672 2) = 0 then ((spec_TurnWord.f k x3 1).bind fun t673 => ((impl_CurveGenus.f k t673).bind fun t676 => (if t676 = x4 then ((impl_CurveGenus.f k x21).bind fun t677 => (if t677 = x4 then (some (decide (x4 ≤ (wrap64 ((wrap64 ((x3.length : Int) / 4)) + 1))))) else (none))) else (none)))) else (none))
def laws_FnGauss.l0 : Nat → List Int → Int → List Int → List Int → Int → Option (Bool)
 | 0, _, _, _, _, _ => none
 | k + 1, x3, x4, x20, x21, x22 => if x22 < (x20.length : Int) then (laws_FnGauss.j3 k x3 x4 x20 x21 x22 (x4 == 0)) else (laws_FnGauss.j3 k x3 x4 x20 x21 x22 false)
def laws_FnGauss.j3 : Nat → List Int → Int → List Int → List Int → Int → Bool → Option (Bool)
 | 0, _, _, _, _, _, _ => none
 | k + 1, x3, x4, x20, x21, x22, x200 => if x200 = true then (if 0 ≤ x22 then (if x22 < (x20.length : Int) then (if (Int.tmod (rd x20 x22) 2) = 0 then (laws_FnGauss.l0 k x3 x4 x20 x21 (wrap64 (x22 + 1))) else (none)) else (none)) else (none)) else (laws_FnGauss.j4 k x3 x4 x20 x21)
end
def laws_FnGauss.f (k : Nat) (l0 : List Int) : Option (Bool) := (laws_big.f l0).bind fun t606 => (if t606 = true then (some true) else ((spec_DrawCurveGenus.f k l0).bind fun t607 => ((impl_CurveGenus.f k t607).bind fun t610 => ((spec_DrawAreLinked.f k l0).bind fun bt611 => ((spec_DrawCrossingMap.f k l0).bind fun bt616 => ((impl_CrossingMap.f k bt616.1 bt616.2).bind fun bt620 => ((spec_CrossingMap.f k bt616.1 bt616.2).bind fun bt624 => ((spec_DrawDropCrossing.f k l0).bind fun bt628 => ((impl_DropCrossing.f k bt628.1 bt628.2).bind fun bt632 => ((spec_DropCrossing.f k bt628.1 bt628.2).bind fun bt636 => ((impl_LinkRow.f k t607).bind fun t640 => ((impl_DropLoops.f k t607).bind fun t643 => ((spec_CurveGenus.f k t607).bind fun t646 => (if t610 = t646 then ((impl_AreLinked.f k bt611.1 bt611.2.1 bt611.2.2).bind fun t647 => ((spec_AreLinked.f k bt611.1 bt611.2.1 bt611.2.2).bind fun t648 => (if (t647 != t648) = true then (none) else (if (bt620.2 != bt624.2) = true then (none) else ((laws_sameInts.f k bt620.1 bt624.1).bind fun t649 => (if t649 = true then (if (bt632.2 != bt636.2) = true then (none) else ((laws_sameInts.f k bt632.1 bt636.1).bind fun t650 => (if t650 = true then ((spec_LinkRow.f k t607).bind fun t651 => ((laws_sameInts.f k t640 t651).bind fun t654 => (if t654 = true then ((spec_DropLoops.f k t607).bind fun t655 => ((laws_sameInts.f k t643 t655).bind fun t658 => (if t658 = true then ((impl_IsCrossingWord.f k t607).bind fun t659 => ((spec_IsCrossingWord.f k t607).bind fun t660 => (if (t659 != t660) = true then (none) else ((impl_IsPlanarWord.f k t607).bind fun t661 => (if (t661 != (t610 == 0)) = true then (none) else ((impl_AreLinked.f k bt611.1 bt611.2.1 bt611.2.2).bind fun t662 => ((impl_AreLinked.f k bt611.1 bt611.2.2 bt611.2.1).bind fun t663 => (if (t662 != t663) = true then (none) else (if bt620.2 = true then ((spec_IsMap.f k bt620.1).bind fun t664 => (if t664 = true then ((spec_CyclesOf.f k bt620.1).bind fun t665 => (if (wrap64 (2 * (t665.length : Int))) = (bt616.1.length : Int) then ((spec_MapParts.f k bt620.1).bind fun t668 => (laws_FnGauss.j0 k t607 t610 bt628.1 bt632.1 bt632.2 t640 t643 (t668 != 1))) else (none))) else (none))) else (laws_FnGauss.j0 k t607 t610 bt628.1 bt632.1 bt632.2 t640 t643 false)))))))))) else (none)))) else (none)))) else (none)))) else (none))))))) else (none)))))))))))))))
def laws_FnGauss.Pure : Prop := ∀ (l0 : List Int), l0.length ≤ maxLen → l0.length * 1 ≤ 140737488351232 → (∀ x ∈ l0, (Lit.int .u8 x).wf = true) → ∃ k, laws_FnGauss.f k l0 = some true
end Go.Proofs.Ytkmjcdlhlhefdaa.P
namespace Go.Proofs.Ytkmjcdlhlhefdaa.P
open Go.RowKit Go.Proofs.YtkmjcdlhlhefdaaW.PrintWords Go.Proofs.YtkmjcdlhlhefdaaW.PrintLast Go.Proofs.YtkmjcdlhlhefdaaW.PrintMore
attribute [local go_sem] max2_int min2_int max_two min_two max_three min_three max_four min_four   -- for this text's walks alone
set_option linter.unusedVariables false
set_option linter.unusedSimpArgs false

def tailOf : Code → Nat → Code
 | c, 0 => c
 | .seq _ b, n + 1 => tailOf b n
 | c, _ + 1 => c
end Go.Proofs.Ytkmjcdlhlhefdaa.P
