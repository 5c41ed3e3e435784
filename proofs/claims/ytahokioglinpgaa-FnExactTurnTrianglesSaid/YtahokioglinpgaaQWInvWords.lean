-- Cut by this session's prune.py out of words that the kit's print.sh printed (so no longer the printed file). Not trusted: Lean checks it.
import Derived.Test.YtahokioglinpgaaQWInv
import Derived.Test.YtahokioglinpgaaQWFootNe
namespace Go.Proofs.YtahokioglinpgaaW.PrintWords
open Go.RowKit
end Go.Proofs.YtahokioglinpgaaW.PrintWords
namespace Go.Proofs.YtahokioglinpgaaW.PrintLast
section
variable {ops : Array Oper} {a : Act} {o og : Oper} {g : Nat} {t : Tmp} {u : Bool}
end
end Go.Proofs.YtahokioglinpgaaW.PrintLast
