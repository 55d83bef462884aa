/- The law FnMachineBoth over plain bytes: its call is shown to answer true at once (ManLawBM); no condition but the arguments' range. -/
import Derived.Test.YthodcgkhianecaaDoorPAx30
namespace Go.Proofs.YthodcgkhianecaaDoor.Pure
open Go.RowKit Go.Proofs.YthodcgkhianecaaDoor.PA Go.Proofs.YthodcgkhianecaaDoorW.PrintWords Go.Proofs.YthodcgkhianecaaDoorW.PrintLast
set_option linter.unusedVariables false
set_option linter.unusedSimpArgs false
theorem FnMachineBoth (l0 : List Int) (b0 : l0.length ≤ 9223372036854775807) (w0 : ∀ x ∈ l0, (Lit.int .u8 x).wf = true) (l1 : List Int) (b1 : l1.length ≤ 9223372036854775807) (w1 : ∀ x ∈ l1, (Lit.int .u8 x).wf = true) : ∃ k, laws_FnMachineBoth.f k l0 l1 = some true := ⟨0, if_pos ⟨w0, w1⟩⟩
end Go.Proofs.YthodcgkhianecaaDoor.Pure
