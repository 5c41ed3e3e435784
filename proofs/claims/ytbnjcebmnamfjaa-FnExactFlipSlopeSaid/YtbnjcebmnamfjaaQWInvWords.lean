-- Cut by this session's prune.py out of words that the kit's print.sh printed (so no longer the printed file). Not trusted: Lean checks it.
import Derived.Test.YtbnjcebmnamfjaaQWInv
import Derived.Test.YtbnjcebmnamfjaaQWFootNe
namespace Go.Proofs.YtbnjcebmnamfjaaW.PrintWords
open Go.RowKit
end Go.Proofs.YtbnjcebmnamfjaaW.PrintWords
namespace Go.Proofs.YtbnjcebmnamfjaaW.PrintLast
section
variable {ops : Array Oper} {a : Act} {o og : Oper} {g : Nat} {t : Tmp} {u : Bool}
end
end Go.Proofs.YtbnjcebmnamfjaaW.PrintLast
