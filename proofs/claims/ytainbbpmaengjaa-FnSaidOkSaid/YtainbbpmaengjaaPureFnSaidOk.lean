/- The law FnSaidOk over plain bytes: it answers true, for every code; no condition. -/
import Derived.Test.YtainbbpmaengjaaSemDrawSaid
import Derived.Test.YtainbbpmaengjaaSemSaid
import Derived.Test.YtainbbpmaengjaaPAx32
import Derived.Test.YtainbbpmaengjaaPAx31
import Derived.Test.YtainbbpmaengjaaPAx27
import Derived.Test.YtainbbpmaengjaaPAx26
namespace Go.Proofs.Ytainbbpmaengjaa.Pure
open Go.RowKit Go.Proofs.Ytainbbpmaengjaa.PA Go.Proofs.YtainbbpmaengjaaW.PrintWords Go.Proofs.YtainbbpmaengjaaW.PrintLast
set_option linter.unusedVariables false
set_option linter.unusedSimpArgs false
theorem FnSaidOk (l0 : List Int) (b0 : l0.length ≤ 9223372036854775807) (w0 : ∀ x ∈ l0, (Lit.int .u8 x).wf = true) : ∃ k, laws_FnSaidOk.f k l0 = some true := by
  refine Ev.rounds (g := fun k => laws_FnSaidOk.f k l0) ?_
  unfold laws_FnSaidOk.f
  by_cases hl : (l0.length : Int) > 1048576
  · simp only [if_pos hl]
    exact Ev.now _
  · simp only [if_neg hl]
    obtain ⟨b, eo, hb⟩ := Sem.open_ok w0
    obtain ⟨k, l, p, ek, _, hl7, k0, k4⟩ := Sem.l20Said_ok hb (by omega) 6 (by omega) (by omega)
    have hd : Ev (fun q => spec_DrawSaidOk.f q l0) (k, l) := by
      unfold spec_DrawSaidOk.f
      simp only [eo, Option.bind_some]
      exact Ev.bind ek (Ev.now _)
    refine Ev.bind hd ?_
    have hi : ∀ l : List S25, impl_SaidOk.f k l = some (Man.saidB k l) := fun _ => rfl
    have hs := Sem.spec_SaidOk_eq k l (by omega)
    simp only [hi, Option.bind_some]
    refine Ev.bind hs ?_
    have hnil : Man.saidB k [] = decide (1 ≤ k ∧ k ≤ 3) := by unfold Man.saidB; simp
    have htail : Man.saidB k l = true → Man.saidB k (l.drop 1) = true := fun h => by
      unfold Man.saidB at h ⊢
      simp only [Bool.and_eq_true, decide_eq_true_eq] at h ⊢
      refine ⟨⟨h.1.1, by rw [List.length_drop]; omega⟩, List.all_eq_true.2 fun x hx => List.all_eq_true.1 h.2 x (List.mem_of_mem_drop hx)⟩
    simp only [bne_self_eq_false, Bool.false_eq_true, if_false, hnil, Sem.alive_ok, Option.bind_some]
    by_cases h1 : k ≥ 1
    · simp only [if_pos h1]
      have e1 : (decide (1 ≤ k ∧ k ≤ 3) == decide (k ≤ 3)) = true := by rw [beq_iff_eq]; exact decide_eq_decide.mpr (by omega)
      simp only [e1, if_true]
      cases hb : Man.saidB k l with
      | false => simp only [Bool.false_eq_true, if_false]; exact Ev.now _
      | true =>
        simp only [if_true]
        by_cases hz : (l.length : Int) = 0
        · simp only [if_pos hz]; exact Ev.now _
        · simp only [if_neg hz, if_pos (show (1 : Int) ≤ (l.length : Int) by omega), htail hb, if_true]; exact Ev.now _
    · simp only [if_neg h1]
      have e1 : (decide (1 ≤ k ∧ k ≤ 3) == false) = true := by rw [beq_iff_eq, decide_eq_false_iff_not]; omega
      simp only [e1, if_true]
      cases hb : Man.saidB k l with
      | false => simp only [Bool.false_eq_true, if_false]; exact Ev.now _
      | true =>
        unfold Man.saidB at hb
        simp only [Bool.and_eq_true, decide_eq_true_eq] at hb
        omega
end Go.Proofs.Ytainbbpmaengjaa.Pure
