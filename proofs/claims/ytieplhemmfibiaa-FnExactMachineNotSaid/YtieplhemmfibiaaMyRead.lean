/- Rows of structs among the arguments, opened to the lists that the printed functions take. -/
import Derived.Test.YtieplhemmfibiaaPAx0
import Derived.Test.YtieplhemmfibiaaMyOpen
namespace Go.Proofs.Ytieplhemmfibiaa.MyRead
open Go.Joins Go.ChangeShapes Go.WideShapes Go.RowKit Go.Deep Go.Proofs.Ytieplhemmfibiaa.PA Go.Proofs.YtieplhemmfibiaaW.PrintWords Go.Proofs.YtieplhemmfibiaaW.PrintLast
set_option linter.unusedVariables false
end Go.Proofs.Ytieplhemmfibiaa.MyRead
