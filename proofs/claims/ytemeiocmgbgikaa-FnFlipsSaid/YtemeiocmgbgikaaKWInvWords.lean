-- Cut by this session's prune.py out of words that the kit's print.sh printed (so no longer the printed file). Not trusted: Lean checks it.
import Derived.Test.YtemeiocmgbgikaaKWInv
import Derived.Test.YtemeiocmgbgikaaKWFootNe
namespace Go.Proofs.YtemeiocmgbgikaaW.PrintWords
open Go.RowKit
end Go.Proofs.YtemeiocmgbgikaaW.PrintWords
namespace Go.Proofs.YtemeiocmgbgikaaW.PrintLast
section
variable {ops:Array Oper}{a:Act}{o og:Oper}{g:Nat}{t:Tmp}{u:Bool}
end
end Go.Proofs.YtemeiocmgbgikaaW.PrintLast
