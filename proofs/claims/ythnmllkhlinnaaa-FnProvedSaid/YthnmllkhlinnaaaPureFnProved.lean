/- The law FnProved over plain bytes: it answers true, for every code; no condition. -/
import Derived.Test.YthnmllkhlinnaaaSemLaws5
import Derived.Test.YthnmllkhlinnaaaSemDrawSaid
import Derived.Test.YthnmllkhlinnaaaPAx32
import Derived.Test.YthnmllkhlinnaaaPAx31
import Derived.Test.YthnmllkhlinnaaaPAx8
import Derived.Test.YthnmllkhlinnaaaPAx21
namespace Go.Proofs.Ythnmllkhlinnaaa.Pure
open Go.RowKit Go.Proofs.Ythnmllkhlinnaaa.PA Go.Proofs.YthnmllkhlinnaaaW.PrintWords Go.Proofs.YthnmllkhlinnaaaW.PrintLast
set_option linter.unusedVariables false
set_option linter.unusedSimpArgs false
theorem FnProved (l0 : List Int) (b0 : l0.length ≤ 9223372036854775807) (w0 : ∀ x ∈ l0, (Lit.int .u8 x).wf = true) : ∃ k, laws_FnProved.f k l0 = some true := by
  refine Ev.rounds (g := fun k => laws_FnProved.f k l0) ?_
  unfold laws_FnProved.f
  by_cases hl : (l0.length : Int) > 1048576
  · simp only [if_pos hl]
    exact Ev.now _
  · simp only [if_neg hl]
    obtain ⟨b, eo, hb⟩ := Sem.open_ok w0
    obtain ⟨k, l, p, ek, hr, hl7, k0, k4⟩ := Sem.l20Said_ok hb (by omega) 20 (by omega) (by omega)
    obtain ⟨f, o, t, p', es, _⟩ := Sem.l20Say_ok hr (by omega) k k0 k4 20 (by omega)
    have hd : Ev (fun q => spec_DrawProved.f q l0) (k, l, f, o, t) := by
      unfold spec_DrawProved.f
      simp only [eo, Option.bind_some]
      exact Ev.bind ek (Ev.bind es (Ev.now _))
    refine Ev.bind hd ?_
    have hi : impl_Proved.f k l f o t = some (Man.provedB k l ⟨f, o, t⟩) := rfl
    simp only [hi, Option.bind_some]
    refine Ev.bind (Sem.spec_Proved_eq k l (by omega) ⟨f, o, t⟩) ?_
    simp only [bne_self_eq_false, Bool.false_eq_true, if_false]
    refine Ev.bind (Sem.spec_SaidOk_eq k l (by omega)) ?_
    have no : Man.provedB k l ⟨f, o, t⟩ = false → Ev (fun n => laws_FnProved.j0 n k l (Man.provedB k l ⟨f, o, t⟩) true f o t) true := fun h => by
      refine Sem.ev1 (fun n => ?_)
      simp only [laws_FnProved.j0, if_true, h, Bool.false_eq_true, if_false, Sem.alive_ok, Option.bind_some]
    cases hq : Man.saidB k l with
    | false =>
      simp only [Bool.false_eq_true, if_false]
      exact no (by unfold Man.provedB; rw [hq]; rfl)
    | true =>
      simp only [if_true, Sem.spec_SayOk_eq, Option.bind_some]
      have e : decide (Sem.OkSay k f o t) = Man.okB k ⟨f, o, t⟩ := (Sem.okB_ok k ⟨f, o, t⟩).symm
      rw [e]
      cases hs : Man.okB k ⟨f, o, t⟩ with
      | false =>
        exact no (by unfold Man.provedB; rw [hq, hs]; rfl)
      | true =>
        have hw : impl_WorldWithout.f k l f o t = some (Man.worldB k l ⟨f, o, t⟩) := rfl
        refine Sem.ev1 (fun n => ?_)
        simp only [laws_FnProved.j0, Bool.not_true, Bool.false_eq_true, if_false, hw, Option.bind_some]
        have hp := Sem.provedB_eq hq hs
        rcases Sem.world_cases hq hs with ⟨w, _, h1, _, _, h2⟩ | ⟨h1, h2⟩
        · have : Man.provedB k l ⟨f, o, t⟩ = false := Bool.eq_false_iff.2 (fun h => h2 (hp.1 h))
          rw [h1, this]
          rfl
        · rw [h1, hp.2 h2]
          rfl
end Go.Proofs.Ythnmllkhlinnaaa.Pure
