/- The statements' own comparing of slopes. -/
import Derived.Test.YtjmifldndjkmpaaPx8
import Derived.Test.YtjmifldndjkmpaaHelp
import Derived.Test.YtjmifldndjkmpaaLBase
namespace Go.Proofs.Ytjmifldndjkmpaa.L
open Go.RowKit Go.Proofs.Ytjmifldndjkmpaa.P Go.Proofs.Ytjmifldndjkmpaa.Help Go.Proofs.YtjmifldndjkmpaaW.PrintWords
set_option linter.unusedVariables false
set_option linter.unusedSimpArgs false

theorem eqS_self (a b : Int) : laws_eqSlope.f a b a b = some true := by simp [laws_eqSlope.f]
end Go.Proofs.Ytjmifldndjkmpaa.L
