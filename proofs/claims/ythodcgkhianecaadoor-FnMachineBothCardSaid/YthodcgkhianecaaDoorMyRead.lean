/- Rows of structs among the arguments, opened to the lists that the printed functions take. -/
import Derived.Test.YthodcgkhianecaaDoorPAx0
import Derived.Test.YthodcgkhianecaaDoorMyOpen
namespace Go.Proofs.YthodcgkhianecaaDoor.MyRead
open Go.Joins Go.ChangeShapes Go.WideShapes Go.RowKit Go.Deep Go.Proofs.YthodcgkhianecaaDoor.PA Go.Proofs.YthodcgkhianecaaDoorW.PrintWords Go.Proofs.YthodcgkhianecaaDoorW.PrintLast
set_option linter.unusedVariables false
set_option maxRecDepth 100000
end Go.Proofs.YthodcgkhianecaaDoor.MyRead
