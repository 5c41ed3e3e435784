-- Cut by this session's prune.py out of words that the kit's print.sh printed (so no longer the printed file). Not trusted: Lean checks it.
import Derived.Test.YtemeiocmgbgikaaKWN
/-! ### 52. A row that stays read whatever happens to a block (a set of blocks) doesn't lie there -/
namespace Go.Proofs.YtemeiocmgbgikaaW.PrintWords
open Go.RowKit
namespace Kd
section
variable {α:Type}{d:Kd α}{W:World}{g n:Nat}{S ok:Nat→Prop}{A:Option Addr}{ad:Addr}{xs:List α}
end
end Kd
end Go.Proofs.YtemeiocmgbgikaaW.PrintWords
