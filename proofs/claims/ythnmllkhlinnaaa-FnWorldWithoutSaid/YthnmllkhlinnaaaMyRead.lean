/- Rows of structs among the arguments, opened to the lists that the printed functions take. -/
import Derived.Test.YthnmllkhlinnaaaPAx0
import Derived.Test.YthnmllkhlinnaaaMyOpen
namespace Go.Proofs.Ythnmllkhlinnaaa.MyRead
open Go.Joins Go.ChangeShapes Go.WideShapes Go.RowKit Go.Deep Go.Proofs.Ythnmllkhlinnaaa.PA Go.Proofs.YthnmllkhlinnaaaW.PrintWords Go.Proofs.YthnmllkhlinnaaaW.PrintLast
set_option linter.unusedVariables false
end Go.Proofs.Ythnmllkhlinnaaa.MyRead
