/- Rows of structs among the arguments, opened to the lists that the printed functions take. -/
import Derived.Test.YtmbninbecclbiaaPAx0
import Derived.Test.YtmbninbecclbiaaMyOpen
namespace Go.Proofs.Ytmbninbecclbiaa.MyRead
open Go.Joins Go.ChangeShapes Go.WideShapes Go.RowKit Go.Deep Go.Proofs.Ytmbninbecclbiaa.PA Go.Proofs.YtmbninbecclbiaaW.PrintWords Go.Proofs.YtmbninbecclbiaaW.PrintLast
set_option linter.unusedVariables false
set_option maxRecDepth 100000
end Go.Proofs.Ytmbninbecclbiaa.MyRead
