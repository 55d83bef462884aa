/- Rows of structs among the arguments, opened to the lists that the printed functions take. -/
import Derived.Test.YtainbbpmaengjaaPAx0
import Derived.Test.YtainbbpmaengjaaMyOpen
namespace Go.Proofs.Ytainbbpmaengjaa.MyRead
open Go.Joins Go.ChangeShapes Go.WideShapes Go.RowKit Go.Deep Go.Proofs.Ytainbbpmaengjaa.PA Go.Proofs.YtainbbpmaengjaaW.PrintWords Go.Proofs.YtainbbpmaengjaaW.PrintLast
set_option linter.unusedVariables false
end Go.Proofs.Ytainbbpmaengjaa.MyRead
