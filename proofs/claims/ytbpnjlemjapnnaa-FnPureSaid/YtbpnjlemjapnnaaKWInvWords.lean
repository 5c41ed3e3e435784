-- Cut by this session's prune.py out of words that the kit's print.sh printed (so no longer the printed file). Not trusted: Lean checks it.
import Derived.Test.YtbpnjlemjapnnaaKWInv
import Derived.Test.YtbpnjlemjapnnaaKWFootNe
namespace Go.Proofs.YtbpnjlemjapnnaaW.PrintWords
open Go.RowKit
end Go.Proofs.YtbpnjlemjapnnaaW.PrintWords
namespace Go.Proofs.YtbpnjlemjapnnaaW.PrintLast
section
variable {ops:Array Oper}{a:Act}{o og:Oper}{g:Nat}{t:Tmp}{u:Bool}
end
end Go.Proofs.YtbpnjlemjapnnaaW.PrintLast
