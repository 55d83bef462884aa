/- Rows of structs among the arguments, opened to the lists that the printed functions take. -/
import Derived.Test.YtmkfmbjemdbigaaPAx0
import Derived.Test.YtmkfmbjemdbigaaMyOpen
namespace Go.Proofs.Ytmkfmbjemdbigaa.MyRead
open Go.Joins Go.ChangeShapes Go.WideShapes Go.RowKit Go.Deep Go.Proofs.Ytmkfmbjemdbigaa.PA Go.Proofs.YtmkfmbjemdbigaaW.PrintWords Go.Proofs.YtmkfmbjemdbigaaW.PrintLast
set_option linter.unusedVariables false
set_option maxRecDepth 100000
end Go.Proofs.Ytmkfmbjemdbigaa.MyRead
