/- Rows of structs among the arguments, opened to the lists that the printed functions take. -/
import Derived.Test.YtknphpgalklclaaPAx0
import Derived.Test.YtknphpgalklclaaMyOpen
namespace Go.Proofs.Ytknphpgalklclaa.MyRead
open Go.Joins Go.ChangeShapes Go.WideShapes Go.RowKit Go.Deep Go.Proofs.Ytknphpgalklclaa.PA Go.Proofs.YtknphpgalklclaaW.PrintWords Go.Proofs.YtknphpgalklclaaW.PrintLast
set_option linter.unusedVariables false
end Go.Proofs.Ytknphpgalklclaa.MyRead
