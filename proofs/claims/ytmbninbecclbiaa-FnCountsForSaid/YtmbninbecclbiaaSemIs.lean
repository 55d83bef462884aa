/- Things of a sort of a term: both programs' test, in plain words; for eight sorts and six terms. -/
import Derived.KernelRfl
import Derived.Test.YtmbninbecclbiaaSemBase
import Derived.Test.YtmbninbecclbiaaPAx1
import Derived.Test.YtmbninbecclbiaaPAx17
namespace Go.Proofs.Ytmbninbecclbiaa.Sem
open Go.RowKit Go.Proofs.Ytmbninbecclbiaa.PA Go.Proofs.YtmbninbecclbiaaW.PrintWords Go.Proofs.YtmbninbecclbiaaW.PrintLast Go.Proofs.YtmbninbecclbiaaW.PrintMore
set_option linter.unusedVariables false
set_option linter.unusedSimpArgs false

/-- Are things of a sort of a term? -/
def isB (s t : Nat) : Bool := (s / 2 ^ (t / 2)) % 2 != t % 2
end Go.Proofs.Ytmbninbecclbiaa.Sem
