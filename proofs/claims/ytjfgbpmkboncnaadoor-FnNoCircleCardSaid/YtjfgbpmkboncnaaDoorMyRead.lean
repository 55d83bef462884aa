/- Rows of structs among the arguments, opened to the lists that the printed functions take. -/
import Derived.Test.YtjfgbpmkboncnaaDoorPAx0
import Derived.Test.YtjfgbpmkboncnaaDoorMyOpen
namespace Go.Proofs.YtjfgbpmkboncnaaDoor.MyRead
open Go.Joins Go.ChangeShapes Go.WideShapes Go.RowKit Go.Deep Go.Proofs.YtjfgbpmkboncnaaDoor.PA Go.Proofs.YtjfgbpmkboncnaaDoorW.PrintWords Go.Proofs.YtjfgbpmkboncnaaDoorW.PrintLast
set_option linter.unusedVariables false
end Go.Proofs.YtjfgbpmkboncnaaDoor.MyRead
