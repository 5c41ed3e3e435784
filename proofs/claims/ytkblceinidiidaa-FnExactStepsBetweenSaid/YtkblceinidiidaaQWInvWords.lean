-- Cut by this session's prune.py out of words that the kit's print.sh printed (so no longer the printed file). Not trusted: Lean checks it.
import Derived.Test.YtkblceinidiidaaQWInv
import Derived.Test.YtkblceinidiidaaQWFootNe
namespace Go.Proofs.YtkblceinidiidaaW.PrintWords
open Go.RowKit
end Go.Proofs.YtkblceinidiidaaW.PrintWords
namespace Go.Proofs.YtkblceinidiidaaW.PrintLast
section
variable {ops : Array Oper} {a : Act} {o og : Oper} {g : Nat} {t : Tmp} {u : Bool}
end
end Go.Proofs.YtkblceinidiidaaW.PrintLast
