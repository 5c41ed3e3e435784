-- Cut by this session's prune.py out of words that the kit's print.sh printed (so no longer the printed file). Not trusted: Lean checks it.
import Derived.Test.YtjmhcbilefnhdaaQWInv
import Derived.Test.YtjmhcbilefnhdaaQWFootNe
namespace Go.Proofs.YtjmhcbilefnhdaaW.PrintWords
open Go.RowKit
end Go.Proofs.YtjmhcbilefnhdaaW.PrintWords
namespace Go.Proofs.YtjmhcbilefnhdaaW.PrintLast
section
variable {ops : Array Oper} {a : Act} {o og : Oper} {g : Nat} {t : Tmp} {u : Bool}
end
end Go.Proofs.YtjmhcbilefnhdaaW.PrintLast
