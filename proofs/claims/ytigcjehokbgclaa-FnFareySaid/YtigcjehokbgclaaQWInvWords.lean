-- Cut by this session's prune.py out of words that the kit's print.sh printed (so no longer the printed file). Not trusted: Lean checks it.
import Derived.Test.YtigcjehokbgclaaQWInv
import Derived.Test.YtigcjehokbgclaaQWFootNe
namespace Go.Proofs.YtigcjehokbgclaaW.PrintWords
open Go.RowKit
end Go.Proofs.YtigcjehokbgclaaW.PrintWords
namespace Go.Proofs.YtigcjehokbgclaaW.PrintLast
section
variable {ops : Array Oper} {a : Act} {o og : Oper} {g : Nat} {t : Tmp} {u : Bool}
end
end Go.Proofs.YtigcjehokbgclaaW.PrintLast
