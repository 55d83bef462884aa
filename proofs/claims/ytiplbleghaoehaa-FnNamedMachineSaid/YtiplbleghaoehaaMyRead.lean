/- Rows of structs among the arguments, opened to the lists that the printed functions take. -/
import Derived.Test.YtiplbleghaoehaaPAx0
import Derived.Test.YtiplbleghaoehaaMyOpen
namespace Go.Proofs.Ytiplbleghaoehaa.MyRead
open Go.Joins Go.ChangeShapes Go.WideShapes Go.RowKit Go.Deep Go.Proofs.Ytiplbleghaoehaa.PA Go.Proofs.YtiplbleghaoehaaW.PrintWords Go.Proofs.YtiplbleghaoehaaW.PrintLast
set_option linter.unusedVariables false
end Go.Proofs.Ytiplbleghaoehaa.MyRead
