/- The law FnProvedMany over plain bytes: it answers true, for every code; no condition. -/
import Derived.Test.YthnmllkhlinnaaaSemMany
import Derived.Test.YthnmllkhlinnaaaSemDrawSaid
import Derived.Test.YthnmllkhlinnaaaPAx30
import Derived.Test.YthnmllkhlinnaaaPAx29
import Derived.Test.YthnmllkhlinnaaaPAx8
import Derived.Test.YthnmllkhlinnaaaPAx13
namespace Go.Proofs.Ythnmllkhlinnaaa.Pure
open Go.RowKit Go.Proofs.Ythnmllkhlinnaaa.PA Go.Proofs.YthnmllkhlinnaaaW.PrintWords Go.Proofs.YthnmllkhlinnaaaW.PrintLast
set_option linter.unusedVariables false
set_option linter.unusedSimpArgs false
theorem FnProvedMany (l0 : List Int) (b0 : l0.length ≤ 9223372036854775807) (w0 : ∀ x ∈ l0, (Lit.int .u8 x).wf = true) : ∃ k, laws_FnProvedMany.f k l0 = some true := by
  refine Ev.rounds (g := fun k => laws_FnProvedMany.f k l0) ?_
  unfold laws_FnProvedMany.f
  by_cases hl : (l0.length : Int) > 1048576
  · simp only [if_pos hl]
    exact Ev.now _
  · simp only [if_neg hl]
    obtain ⟨b, eo, hb⟩ := Sem.open_ok w0
    obtain ⟨k, l, p, ek, hr, hl7, k0, k4⟩ := Sem.l20Said_ok hb (by omega) 12 (by omega) (by omega)
    have hd : Ev (fun q => spec_DrawProvedMany.f q l0) (k, l) := by
      unfold spec_DrawProvedMany.f
      simp only [eo, Option.bind_some]
      exact Ev.bind ek (Ev.now _)
    refine Ev.bind hd ?_
    have hi : impl_ProvedMany.f k l = some (Man.manyB k l) := rfl
    simp only [hi, Option.bind_some]
    refine Ev.bind (Sem.spec_ProvedMany_eq k l (by omega)) ?_
    simp only [if_true]
    cases hq : Man.saidB k l with
    | false =>
      have e : Man.manyB k l = -1 := by unfold Man.manyB; rw [hq]; rfl
      simp only [e, if_pos (show (-1 : Int) < 0 by omega), if_true, Sem.alive_ok, Option.bind_some]
      exact Ev.now _
    | true =>
      have e : Man.manyB k l = (Man.manyN k l : Int) := by unfold Man.manyB; rw [hq]; rfl
      obtain ⟨h1, h2, h3⟩ := Sem.many_facts hq
      obtain ⟨hk, h6, hok⟩ := Man.said_of hq
      have hs : Man.okB k ⟨1, 0, 1⟩ = true := by
        rw [Sem.okB_ok]
        refine decide_eq_true ?_
        unfold Sem.OkSay
        simp only
        omega
      have hp := Sem.provedB_eq hq hs
      have w1 : wrap64 (2 * k) = 2 * k := by unfold wrap64; omega
      have w2 : wrap64 (2 * (2 * k)) = 2 * (2 * k) := by unfold wrap64; omega
      have hk' : k = 1 ∨ k = 2 ∨ k = 3 := by omega
      have w3 : wrap64 (2 * (2 * k) * (2 * k)) = 2 * (2 * k) * (2 * k) := by rcases hk' with rfl | rfl | rfl <;> (unfold wrap64; omega)
      have hj : impl_Proved.f k l 1 0 1 = some (Man.provedB k l ⟨1, 0, 1⟩) := rfl
      simp only [e, w1, w2, w3, if_neg (show ¬ (Man.manyN k l : Int) < 0 by omega), if_pos (show (Man.manyN k l : Int) ≥ 2 * k from h1), if_pos h2, hj, Option.bind_some]
      have hb : (((Man.manyN k l : Int) == 2 * (2 * k) * (2 * k)) == Man.provedB k l ⟨1, 0, 1⟩) = true := by
        rw [beq_iff_eq, Bool.eq_iff_iff, beq_iff_eq, hp]
        exact h3
      rw [hb]
      exact Ev.now _
end Go.Proofs.Ythnmllkhlinnaaa.Pure
