/- The law FnExactReadSay over plain numbers and texts: it answers true; no condition. -/
import Derived.Test.YtainbbpmaengjaaSemRead
import Derived.Test.YtainbbpmaengjaaPAx14
namespace Go.Proofs.Ytainbbpmaengjaa.Pure
open Go.RowKit Go.Proofs.Ytainbbpmaengjaa.PA Go.Proofs.YtainbbpmaengjaaW.PrintWords Go.Proofs.YtainbbpmaengjaaW.PrintLast
set_option linter.unusedVariables false
set_option linter.unusedSimpArgs false
theorem FnExactReadSay (a0 : Int) (w0 : (Lit.int .i64 a0).wf = true) (a1 : ByteArray) (w1 : a1.size ≤ 140737488351232) : ∃ k, laws_FnExactReadSay.f k a0 a1 = some true := by
  refine Ev.rounds (g := fun k => laws_FnExactReadSay.f k a0 a1) ?_
  unfold laws_FnExactReadSay.f
  by_cases hl : (a1.size : Int) > 1048576
  · simp only [if_pos hl]
    exact Ev.now _
  · simp only [if_neg hl]
    obtain ⟨⟨f, o, t, b⟩, hr⟩ := Sem.isRead_some a0 a1
    refine Ev.bind (Sem.spec_read a0 a1 _ hr) (Ev.bind (Sem.impl_read a0 a1 _ hr) ?_)
    have e : laws_eqSay.f f o t f o t = some true := by unfold laws_eqSay.f; rw [if_pos rfl, if_pos rfl, if_pos rfl]
    simp only [e, Option.bind_some, if_true, bne_self_eq_false, Bool.false_eq_true, if_false]
    exact Ev.now _
end Go.Proofs.Ytainbbpmaengjaa.Pure
