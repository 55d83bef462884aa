/- The law FnNamedMachine over plain bytes: its call is shown to answer true at once (ManLawTri2); no condition but the argument's range. -/
import Derived.Test.YtiplbleghaoehaaPAx19
namespace Go.Proofs.Ytiplbleghaoehaa.Pure
open Go.RowKit Go.Proofs.Ytiplbleghaoehaa.PA Go.Proofs.YtiplbleghaoehaaW.PrintWords Go.Proofs.YtiplbleghaoehaaW.PrintLast
set_option linter.unusedVariables false
set_option linter.unusedSimpArgs false
theorem FnNamedMachine (l0 : List Int) (b0 : l0.length ≤ 9223372036854775807) (w0 : ∀ x ∈ l0, (Lit.int .u8 x).wf = true) : ∃ k, laws_FnNamedMachine.f k l0 = some true := ⟨0, if_pos w0⟩
end Go.Proofs.Ytiplbleghaoehaa.Pure
