-- Cut by this session's prune.py out of words that the kit's print.sh printed (so no longer the printed file). Not trusted: Lean checks it.
import Derived.Test.YtkmjcdlhlhefdaaQWInv
import Derived.Test.YtkmjcdlhlhefdaaQWFootNe
namespace Go.Proofs.YtkmjcdlhlhefdaaW.PrintWords
open Go.RowKit
end Go.Proofs.YtkmjcdlhlhefdaaW.PrintWords
namespace Go.Proofs.YtkmjcdlhlhefdaaW.PrintLast
section
variable {ops : Array Oper} {a : Act} {o og : Oper} {g : Nat} {t : Tmp} {u : Bool}
end
end Go.Proofs.YtkmjcdlhlhefdaaW.PrintLast
