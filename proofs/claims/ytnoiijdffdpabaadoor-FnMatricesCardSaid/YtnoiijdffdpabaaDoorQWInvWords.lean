-- Cut by this session's prune.py out of words that the kit's print.sh printed (so no longer the printed file). Not trusted: Lean checks it.
import Derived.Test.YtnoiijdffdpabaaDoorQWInv
import Derived.Test.YtnoiijdffdpabaaDoorQWFootNe
namespace Go.Proofs.YtnoiijdffdpabaaDoorW.PrintWords
open Go.RowKit
end Go.Proofs.YtnoiijdffdpabaaDoorW.PrintWords
namespace Go.Proofs.YtnoiijdffdpabaaDoorW.PrintLast
section
variable {ops : Array Oper} {a : Act} {o og : Oper} {g : Nat} {t : Tmp} {u : Bool}
end
end Go.Proofs.YtnoiijdffdpabaaDoorW.PrintLast
