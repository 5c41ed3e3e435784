-- Cut by this session's prune.py out of words that the kit's print.sh printed (so no longer the printed file). Not trusted: Lean checks it.
import Derived.Test.YtolmicnapemljaaQWWords
/-! ### 58. A guarded operation whose guard is known to want it: the same goal without the guard -/
namespace Go.Proofs.YtolmicnapemljaaW.PrintWords
open Go.RowKit
section
variable {P : Program} {ops : Array Oper} {rest : List Oper} {o : Oper} {a : Act} {Q : Exit → Act → World → Prop} {W : World}
end
end Go.Proofs.YtolmicnapemljaaW.PrintWords
