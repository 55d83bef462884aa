/- Rows of structs among the arguments, opened to the lists that the printed functions take. -/
import Derived.Test.YtmeamfkjfpaciaaPAx0
import Derived.Test.YtmeamfkjfpaciaaMyOpen
namespace Go.Proofs.Ytmeamfkjfpaciaa.MyRead
open Go.Joins Go.ChangeShapes Go.WideShapes Go.RowKit Go.Deep Go.Proofs.Ytmeamfkjfpaciaa.PA Go.Proofs.YtmeamfkjfpaciaaW.PrintWords Go.Proofs.YtmeamfkjfpaciaaW.PrintLast
set_option linter.unusedVariables false
set_option maxRecDepth 100000
end Go.Proofs.Ytmeamfkjfpaciaa.MyRead
