/- The statements' own comparing of matrices. -/
import Derived.Test.YtjmifldndjkmpaaPx9
import Derived.Test.YtjmifldndjkmpaaHelp
import Derived.Test.YtjmifldndjkmpaaLBase
namespace Go.Proofs.Ytjmifldndjkmpaa.L
open Go.RowKit Go.Proofs.Ytjmifldndjkmpaa.P Go.Proofs.Ytjmifldndjkmpaa.Help Go.Proofs.YtjmifldndjkmpaaW.PrintWords
set_option linter.unusedVariables false
set_option linter.unusedSimpArgs false

theorem eqM_self (a b c d : Int) : laws_eqMatrix.f a b c d a b c d = some true := by simp [laws_eqMatrix.f]
end Go.Proofs.Ytjmifldndjkmpaa.L
