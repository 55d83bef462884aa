/- The law FnExactMachineBoth over plain rows: its call is shown to answer true at once (ManLawBoth); no condition but the arguments' ranges. -/
import Derived.Test.YtgaapfldimokpaaPAx16
namespace Go.Proofs.Ytgaapfldimokpaa.Pure
open Go.RowKit Go.Proofs.Ytgaapfldimokpaa.PA Go.Proofs.YtgaapfldimokpaaW.PrintWords Go.Proofs.YtgaapfldimokpaaW.PrintLast
set_option linter.unusedVariables false
set_option linter.unusedSimpArgs false
theorem FnExactMachineBoth (l0_0 : List Int) (b0_0 : l0_0.length ≤ 9223372036854775807) (w0_0 : ∀ x ∈ l0_0, (Lit.int .i64 x).wf = true) (l0_1 : List Int) (b0_1 : l0_1.length ≤ 9223372036854775807) (w0_1 : ∀ x ∈ l0_1, (Lit.int .i64 x).wf = true) (l0_2 : List Int) (b0_2 : l0_2.length ≤ 9223372036854775807) (w0_2 : ∀ x ∈ l0_2, (Lit.int .i64 x).wf = true) (l1_0 : List Int) (b1_0 : l1_0.length ≤ 9223372036854775807) (w1_0 : ∀ x ∈ l1_0, (Lit.int .i64 x).wf = true) (l1_1 : List Int) (b1_1 : l1_1.length ≤ 9223372036854775807) (w1_1 : ∀ x ∈ l1_1, (Lit.int .i64 x).wf = true) (l1_2 : List Int) (b1_2 : l1_2.length ≤ 9223372036854775807) (w1_2 : ∀ x ∈ l1_2, (Lit.int .i64 x).wf = true) : ∃ k, laws_FnExactMachineBoth.f k l0_0 l0_1 l0_2 l1_0 l1_1 l1_2 = some true := ⟨0, rfl⟩
end Go.Proofs.Ytgaapfldimokpaa.Pure
