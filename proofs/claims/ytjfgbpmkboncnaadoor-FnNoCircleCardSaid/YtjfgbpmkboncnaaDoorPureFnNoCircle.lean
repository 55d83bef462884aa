/- The law FnNoCircle over plain bytes: its call is shown to answer true at once (ManLawCircle); no condition but the argument's range. -/
import Derived.Test.YtjfgbpmkboncnaaDoorManLawCircleC
namespace Go.Proofs.YtjfgbpmkboncnaaDoor.Pure
open Go.RowKit Go.Proofs.YtjfgbpmkboncnaaDoor.PA Go.Proofs.YtjfgbpmkboncnaaDoorW.PrintWords Go.Proofs.YtjfgbpmkboncnaaDoorW.PrintLast
set_option linter.unusedVariables false
set_option linter.unusedSimpArgs false
theorem FnNoCircle (l0 : List Int) (b0 : l0.length ≤ 9223372036854775807) (w0 : ∀ x ∈ l0, (Lit.int .u8 x).wf = true) : ∃ k, laws_FnNoCircle.f k l0 = some true := ⟨0, if_pos w0⟩
end Go.Proofs.YtjfgbpmkboncnaaDoor.Pure
