/- The law FnAnyOrder over plain bytes: its call is shown to answer true at once (ManLawOrder); no condition but the argument's range. -/
import Derived.Test.YtgaapfldimokpaaManLawOrderC
namespace Go.Proofs.Ytgaapfldimokpaa.Pure
open Go.RowKit Go.Proofs.Ytgaapfldimokpaa.PA Go.Proofs.YtgaapfldimokpaaW.PrintWords Go.Proofs.YtgaapfldimokpaaW.PrintLast
set_option linter.unusedVariables false
set_option linter.unusedSimpArgs false
theorem FnAnyOrder (l0 : List Int) (b0 : l0.length ≤ 9223372036854775807) (w0 : ∀ x ∈ l0, (Lit.int .u8 x).wf = true) : ∃ k, laws_FnAnyOrder.f k l0 = some true := ⟨0, if_pos w0⟩
end Go.Proofs.Ytgaapfldimokpaa.Pure
