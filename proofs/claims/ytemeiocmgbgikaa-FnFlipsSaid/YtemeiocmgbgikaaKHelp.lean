/- Words for the rows of this seat's claims: whole numbers of 64 bits; a slice of slices of whole numbers, or a struct of whole numbers, that comes in. -/
import Derived.Test.YtemeiocmgbgikaaKWMore
import Derived.Test.YtemeiocmgbgikaaKWSized
import Derived.Deep.Matrix
import Derived.Lib.SmallJoins
import Derived.SizedLaws
import Derived.ChangeOld
import Derived.ProofKit
import Derived.OpenShut
namespace Go.Proofs.Ytemeiocmgbgikaa.Help
open Go.RowKit Go.ChangeShapes Go.WideShapes Go.Joins Go.Deep Go.Proofs.YtemeiocmgbgikaaW.PrintWords
set_option linter.unusedVariables false
end Go.Proofs.Ytemeiocmgbgikaa.Help
