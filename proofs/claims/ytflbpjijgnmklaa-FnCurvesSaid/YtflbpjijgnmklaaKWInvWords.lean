-- Cut by this session's prune.py out of words that the kit's print.sh printed (so no longer the printed file). Not trusted: Lean checks it.
import Derived.Test.YtflbpjijgnmklaaKWInv
import Derived.Test.YtflbpjijgnmklaaKWFootNe
namespace Go.Proofs.YtflbpjijgnmklaaW.PrintWords
open Go.RowKit
end Go.Proofs.YtflbpjijgnmklaaW.PrintWords
namespace Go.Proofs.YtflbpjijgnmklaaW.PrintLast
section
variable {ops:Array Oper}{a:Act}{o og:Oper}{g:Nat}{t:Tmp}{u:Bool}
end
end Go.Proofs.YtflbpjijgnmklaaW.PrintLast
