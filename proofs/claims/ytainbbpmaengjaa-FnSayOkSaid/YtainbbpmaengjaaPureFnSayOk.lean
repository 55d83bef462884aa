/- The law FnSayOk over plain bytes: it answers true, for every code; no condition. -/
import Derived.Test.YtainbbpmaengjaaSemDrawSay
import Derived.Test.YtainbbpmaengjaaSemSay
import Derived.Test.YtainbbpmaengjaaPAx18
namespace Go.Proofs.Ytainbbpmaengjaa.Pure
open Go.RowKit Go.Proofs.Ytainbbpmaengjaa.PA Go.Proofs.YtainbbpmaengjaaW.PrintWords Go.Proofs.YtainbbpmaengjaaW.PrintLast
set_option linter.unusedVariables false
set_option linter.unusedSimpArgs false
theorem FnSayOk (l0 : List Int) (b0 : l0.length ≤ 9223372036854775807) (w0 : ∀ x ∈ l0, (Lit.int .u8 x).wf = true) : ∃ k, laws_FnSayOk.f k l0 = some true := by
  refine Ev.rounds (g := fun k => laws_FnSayOk.f k l0) ?_
  unfold laws_FnSayOk.f
  by_cases hl : (l0.length : Int) > 1048576
  · simp only [if_pos hl]
    exact Ev.now _
  · simp only [if_neg hl]
    obtain ⟨b, eo, hb⟩ := Sem.open_ok w0
    obtain ⟨k, p, ek, hk, k0, k4⟩ := Sem.l20Kinds_ok hb (by omega) 9 (by omega)
    obtain ⟨f, o, t, p', es, _⟩ := Sem.l20Say_ok hk (by omega) k k0 k4 4 (by omega)
    have hd : Ev (fun q => spec_DrawSayOk.f q l0) (k, f, o, t) := by
      unfold spec_DrawSayOk.f
      simp only [eo, Option.bind_some]
      exact Ev.bind ek (Ev.bind es (Ev.now _))
    refine Ev.bind hd ?_
    have hsw : decide (Sem.OkSay k f t o) = decide (Sem.OkSay k f o t) := decide_eq_decide.mpr (by unfold Sem.OkSay; omega)
    simp only [Sem.spec_SayOk_eq, Sem.impl_SayOk_eq, Option.bind_some, bne_self_eq_false, Bool.false_eq_true, if_false, hsw, beq_self_eq_true, if_true, Sem.alive_ok]
    exact Ev.now _
end Go.Proofs.Ytainbbpmaengjaa.Pure
