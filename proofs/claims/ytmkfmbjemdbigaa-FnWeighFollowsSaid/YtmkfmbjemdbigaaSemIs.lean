/- Things of a sort of a term: both programs' test, in plain words; for eight sorts and six terms. -/
import Derived.KernelRfl
import Derived.Test.YtmkfmbjemdbigaaSemBase
import Derived.Test.YtmkfmbjemdbigaaPAx10
import Derived.Test.YtmkfmbjemdbigaaPAx8
namespace Go.Proofs.Ytmkfmbjemdbigaa.Sem
open Go.RowKit Go.Proofs.Ytmkfmbjemdbigaa.PA Go.Proofs.YtmkfmbjemdbigaaW.PrintWords Go.Proofs.YtmkfmbjemdbigaaW.PrintLast Go.Proofs.YtmkfmbjemdbigaaW.PrintMore
set_option linter.unusedVariables false
set_option linter.unusedSimpArgs false

/-- Are things of a sort of a term? -/
def isB (s t : Nat) : Bool := (s / 2 ^ (t / 2)) % 2 != t % 2
end Go.Proofs.Ytmkfmbjemdbigaa.Sem
