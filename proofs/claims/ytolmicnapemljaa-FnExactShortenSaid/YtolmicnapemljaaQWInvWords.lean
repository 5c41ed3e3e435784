-- Cut by this session's prune.py out of words that the kit's print.sh printed (so no longer the printed file). Not trusted: Lean checks it.
import Derived.Test.YtolmicnapemljaaQWInv
import Derived.Test.YtolmicnapemljaaQWFootNe
namespace Go.Proofs.YtolmicnapemljaaW.PrintWords
open Go.RowKit
end Go.Proofs.YtolmicnapemljaaW.PrintWords
namespace Go.Proofs.YtolmicnapemljaaW.PrintLast
section
variable {ops : Array Oper} {a : Act} {o og : Oper} {g : Nat} {t : Tmp} {u : Bool}
end
end Go.Proofs.YtolmicnapemljaaW.PrintLast
