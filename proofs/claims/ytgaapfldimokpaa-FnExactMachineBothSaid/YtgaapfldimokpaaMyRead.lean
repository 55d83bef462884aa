/- Rows of structs among the arguments, opened to the lists that the printed functions take. -/
import Derived.Test.YtgaapfldimokpaaPAx0
import Derived.Test.YtgaapfldimokpaaMyOpen
namespace Go.Proofs.Ytgaapfldimokpaa.MyRead
open Go.Joins Go.ChangeShapes Go.WideShapes Go.RowKit Go.Deep Go.Proofs.Ytgaapfldimokpaa.PA Go.Proofs.YtgaapfldimokpaaW.PrintWords Go.Proofs.YtgaapfldimokpaaW.PrintLast
set_option linter.unusedVariables false
end Go.Proofs.Ytgaapfldimokpaa.MyRead
