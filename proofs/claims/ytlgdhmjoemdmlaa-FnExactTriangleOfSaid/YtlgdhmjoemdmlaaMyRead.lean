/- Rows of structs among the arguments, opened to the lists that the printed functions take. -/
import Derived.Test.YtlgdhmjoemdmlaaPAx0
import Derived.Test.YtlgdhmjoemdmlaaMyOpen
namespace Go.Proofs.Ytlgdhmjoemdmlaa.MyRead
open Go.Joins Go.ChangeShapes Go.WideShapes Go.RowKit Go.Deep Go.Proofs.Ytlgdhmjoemdmlaa.PA Go.Proofs.YtlgdhmjoemdmlaaW.PrintWords Go.Proofs.YtlgdhmjoemdmlaaW.PrintLast
set_option linter.unusedVariables false
end Go.Proofs.Ytlgdhmjoemdmlaa.MyRead
