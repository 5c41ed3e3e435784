-- By this session's driver (wip/tools/mk.py) of the kit's print program, over several statements at once. Not trusted: Lean checks it.
import Derived.Test.YtkblceinidiidaaProg
import Derived.Below
import Derived.Deep.Draws
import Derived.Deep.AppendLies
import Derived.Maps.AppendAt
import Derived.OwnWalk
import Derived.Laws.BytesArg
import Derived.Laws.MakeOwn
import Derived.Laws.OwnMore
import Derived.Deep.OwnRows
import Derived.Tactics
import Derived.Lib.ConvBytes
import Derived.Laws.Slices
import Derived.WalkKit
import Derived.KernelRfl
import Derived.RowKit3
import Derived.Deep.LoopGhost
import Derived.Deep.QuietTactic
import Derived.BigQuiet
import Derived.WideLaws
import Derived.Deep.DeepCutAuto
import Derived.Deep.CutBlock
import Derived.Deep.RegionHeld3
import Derived.Laws.Rows
import Derived.Lib.AppendStr
import Derived.ArgAppend
import Derived.Laws.IdiomCopy
import Derived.OrdersHeld
import Derived.Laws.BitsLemmas
import Derived.RowKit
import Derived.Maps.OwnOps
import Derived.Maps.Views
import Derived.Laws.CopyOwn
import Derived.Maps.OwnSet
import Derived.DeepKeys4
import Derived.MapViews
import Derived.Test.YtkblceinidiidaaQWWords
import Derived.Test.YtkblceinidiidaaQWLast
import Derived.Test.YtkblceinidiidaaQWTab
import Derived.Test.YtkblceinidiidaaQWFour
import Derived.Test.YtkblceinidiidaaQWQPut
import Derived.Test.YtkblceinidiidaaQWApart
import Derived.Test.YtkblceinidiidaaQWArr
import Derived.Test.YtkblceinidiidaaQWZeros
import Derived.Test.YtkblceinidiidaaQWFoot
import Derived.Test.YtkblceinidiidaaQWKept
import Derived.Test.YtkblceinidiidaaQWShare
import Derived.Test.YtkblceinidiidaaQWN
import Derived.Test.YtkblceinidiidaaQWFootNe
import Derived.Test.YtkblceinidiidaaQWAt
import Derived.Test.YtkblceinidiidaaQWEqStruct
import Derived.Test.YtkblceinidiidaaQWRepsOne
import Derived.Test.YtkblceinidiidaaQWInv
import Derived.Test.YtkblceinidiidaaQWInvWords
import Derived.Test.YtkblceinidiidaaQWGuard
import Derived.Test.YtkblceinidiidaaQWNEv
import Derived.Test.YtkblceinidiidaaQWMore
namespace Go.Proofs.Ytkblceinidiidaa.P
open Go.RowKit Go.Proofs.YtkblceinidiidaaW.PrintWords Go.Proofs.YtkblceinidiidaaW.PrintLast Go.Proofs.YtkblceinidiidaaW.PrintMore
attribute [local go_sem] max2_int min2_int max_two min_two max_three min_three max_four min_four   -- for this text's walks alone
set_option linter.unusedVariables false
set_option linter.unusedSimpArgs false



def errW : Option Int → Value
 | none => .nilIface
 | some c => .iface 0 (.int .i64 c)
theorem eWn : errW none = .nilIface := rfl
theorem eWs (c : Int) : errW (some c) = .iface 0 (.int .i64 c) := rfl

-- the values' own types
/-! #### struct type 25 -/
structure S25 where
 f0 : Int
 f1 : Int
end Go.Proofs.Ytkblceinidiidaa.P
