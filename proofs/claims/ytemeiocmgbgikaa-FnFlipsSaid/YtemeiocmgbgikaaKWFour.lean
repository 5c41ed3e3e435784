-- Cut by this session's prune.py out of words that the kit's print.sh printed (so no longer the printed file). Not trusted: Lean checks it.
import Derived.Test.YtemeiocmgbgikaaKWTab
/-! ### 56. Four, five, six operations that may come up next, in any order -/
namespace Go.Proofs.YtemeiocmgbgikaaW.PrintLast
section
variable {P:Program}{ops:Array Oper}{Q:Exit→Act→World→Prop}{md:Region.Mode}{S:World→Prop}{ds:List Nat}{T:Bool × List (List Nat × List Nat)}
end
end Go.Proofs.YtemeiocmgbgikaaW.PrintLast
