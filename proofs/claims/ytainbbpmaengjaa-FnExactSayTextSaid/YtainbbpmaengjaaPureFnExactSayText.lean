/- The law FnExactSayText over plain numbers: it answers true, for all ints; no condition. -/
import Derived.Test.YtainbbpmaengjaaSemText
import Derived.Test.YtainbbpmaengjaaPAx7
namespace Go.Proofs.Ytainbbpmaengjaa.Pure
open Go.RowKit Go.Proofs.Ytainbbpmaengjaa.PA Go.Proofs.YtainbbpmaengjaaW.PrintWords Go.Proofs.YtainbbpmaengjaaW.PrintLast
set_option linter.unusedVariables false
set_option linter.unusedSimpArgs false
theorem FnExactSayText (a0 : Int) (w0 : (Lit.int .i64 a0).wf = true) (a1_0 : Int) (w1_0 : (Lit.int .i64 a1_0).wf = true) (a1_1 : Int) (w1_1 : (Lit.int .i64 a1_1).wf = true) (a1_2 : Int) (w1_2 : (Lit.int .i64 a1_2).wf = true) : laws_FnExactSayText.f a0 a1_0 a1_1 a1_2 = some true := by
  unfold laws_FnExactSayText.f
  obtain ⟨x, hs, hi⟩ := Sem.sayText_both a0 a1_0 a1_1 a1_2
  simp only [Sem.toSay_eq, Option.bind_some, hs, hi, if_true]
end Go.Proofs.Ytainbbpmaengjaa.Pure
