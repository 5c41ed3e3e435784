-- Cut by this session's prune.py out of words that the kit's print.sh printed (so no longer the printed file). Not trusted: Lean checks it.
import Derived.Test.YtjmhcbilefnhdaaQWLast
import Derived.Test.YtjmhcbilefnhdaaQWWords
/-! ### 50. A region's order in a table, made once a region: each step asks the table (numbers alone), not the operations -/
namespace Go.Proofs.YtjmhcbilefnhdaaW.PrintLast
open Go.Proofs.YtjmhcbilefnhdaaW.PrintWords (Az)
section
variable {md : Region.Mode} {ops : Array Oper} {T : Bool × List (List Nat × List Nat)} {l l' li lj lk : Array Bool} {ds : List Nat} {i j k : Nat}
end
end Go.Proofs.YtjmhcbilefnhdaaW.PrintLast
