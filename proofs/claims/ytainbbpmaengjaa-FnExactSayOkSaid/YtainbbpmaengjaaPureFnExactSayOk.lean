/- The law FnExactSayOk over plain numbers: it answers true, for all numbers; no condition. -/
import Derived.Test.YtainbbpmaengjaaSemSay
namespace Go.Proofs.Ytainbbpmaengjaa.Pure
open Go.RowKit Go.Proofs.Ytainbbpmaengjaa.PA Go.Proofs.YtainbbpmaengjaaW.PrintWords Go.Proofs.YtainbbpmaengjaaW.PrintLast
set_option linter.unusedVariables false
theorem FnExactSayOk (a0 : Int) (w0 : (Lit.int .i64 a0).wf = true) (a1_0 : Int) (w1_0 : (Lit.int .i64 a1_0).wf = true) (a1_1 : Int) (w1_1 : (Lit.int .i64 a1_1).wf = true) (a1_2 : Int) (w1_2 : (Lit.int .i64 a1_2).wf = true) : laws_FnExactSayOk.f a0 a1_0 a1_1 a1_2 = some true := by
  unfold laws_FnExactSayOk.f
  simp only [Sem.toSay_eq, Sem.spec_SayOk_eq, Sem.impl_SayOk_eq, Option.bind_some, bne_self_eq_false]
  rfl
end Go.Proofs.Ytainbbpmaengjaa.Pure
