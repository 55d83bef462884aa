/- The law FnExactCountsFor over plain rows: its call is shown to answer true at once (ManLawCnt); no condition but a length's range. -/
import Derived.Test.YtmbninbecclbiaaPAx41
namespace Go.Proofs.Ytmbninbecclbiaa.Pure
open Go.RowKit Go.Proofs.Ytmbninbecclbiaa.PA Go.Proofs.YtmbninbecclbiaaW.PrintWords Go.Proofs.YtmbninbecclbiaaW.PrintLast
set_option linter.unusedVariables false
set_option linter.unusedSimpArgs false
theorem FnExactCountsFor (l0 : List S24) (b0 : l0.length ≤ 9223372036854775807) (w0 : ∀ x ∈ l0, (Lit.int .i64 x.f0).wf = true ∧ (Lit.int .i64 x.f1).wf = true ∧ (Lit.int .i64 x.f2).wf = true) : ∃ k, laws_FnExactCountsFor.f k l0 = some true := ⟨0, if_pos b0⟩
end Go.Proofs.Ytmbninbecclbiaa.Pure
