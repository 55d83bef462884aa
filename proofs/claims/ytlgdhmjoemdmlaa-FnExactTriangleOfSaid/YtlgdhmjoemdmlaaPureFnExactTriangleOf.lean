/- The law FnExactTriangleOf over plain rows: its call is shown to answer true at once (ManLawTri); no condition but the arguments' ranges. -/
import Derived.Test.YtlgdhmjoemdmlaaPAx16
namespace Go.Proofs.Ytlgdhmjoemdmlaa.Pure
open Go.RowKit Go.Proofs.Ytlgdhmjoemdmlaa.PA Go.Proofs.YtlgdhmjoemdmlaaW.PrintWords Go.Proofs.YtlgdhmjoemdmlaaW.PrintLast
set_option linter.unusedVariables false
set_option linter.unusedSimpArgs false
theorem FnExactTriangleOf (l0_0 : List Int) (b0_0 : l0_0.length ≤ 9223372036854775807) (w0_0 : ∀ x ∈ l0_0, (Lit.int .i64 x).wf = true) (l0_1 : List Int) (b0_1 : l0_1.length ≤ 9223372036854775807) (w0_1 : ∀ x ∈ l0_1, (Lit.int .i64 x).wf = true) (l0_2 : List Int) (b0_2 : l0_2.length ≤ 9223372036854775807) (w0_2 : ∀ x ∈ l0_2, (Lit.int .i64 x).wf = true) : ∃ k, laws_FnExactTriangleOf.f k l0_0 l0_1 l0_2 = some true := ⟨0, rfl⟩
end Go.Proofs.Ytlgdhmjoemdmlaa.Pure
