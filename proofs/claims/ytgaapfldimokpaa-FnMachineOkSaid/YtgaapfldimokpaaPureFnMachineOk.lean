/- The law FnMachineOk over plain bytes: it answers true; no condition but the argument's range. -/
import Derived.Test.YtgaapfldimokpaaSemDrawMach
import Derived.Test.YtgaapfldimokpaaPAx23
namespace Go.Proofs.Ytgaapfldimokpaa.Pure
open Go.RowKit Go.Proofs.Ytgaapfldimokpaa.PA Go.Proofs.Ytgaapfldimokpaa.Sem Go.Proofs.YtgaapfldimokpaaW.PrintWords Go.Proofs.YtgaapfldimokpaaW.PrintLast
set_option linter.unusedVariables false
set_option linter.unusedSimpArgs false

theorem machOne : decide (MachOk [0] [0] [1]) = true := by decide
theorem machNone : decide (MachOk [] [] []) = false := by decide
theorem okM_ev (l0 : List Int) (w0 : ∀ x ∈ l0, (Lit.int .u8 x).wf = true) : Ev (fun k => laws_FnMachineOk.f k l0) true := by
  unfold laws_FnMachineOk.f
  by_cases h0 : (l0.length : Int) > 1048576
  · simp only [if_pos h0]; exact Ev.now _
  · simp only [if_neg h0]
    obtain ⟨b, hb, hR⟩ := open_ok w0
    obtain ⟨r, hr, hS⟩ := l20Machine_ok hR (by omega) 3 (by omega)
    have hD : Ev (fun k => spec_DrawMachineOk.f k l0) (r.1, r.2.1, r.2.2.1) := by
      unfold spec_DrawMachineOk.f
      exact Ev.bind (ev1 (fun _ => hb)) (Ev.bind hr (Ev.now _))
    refine Ev.bind hD ?_
    refine Ev.bind (impl_MachineOk_eq r.1 r.2.1 r.2.2.1) ?_
    refine Ev.bind (spec_MachineOk_eq r.1 r.2.1 r.2.2.1 (by have := hS.1; omega)) ?_
    simp only [bne_self_eq_false, Bool.false_eq_true, if_false]
    refine Ev.bind (impl_MachineOk_eq [0] [0] [1]) ?_
    simp only [machOne, if_true]
    refine Ev.bind (impl_MachineOk_eq [] [] []) ?_
    simp only [machNone, Bool.false_eq_true, if_false]
    exact Ev.bind (ev1 (fun _ => alive_ok)) (Ev.now _)
theorem FnMachineOk (l0 : List Int) (b0 : l0.length ≤ 9223372036854775807) (w0 : ∀ x ∈ l0, (Lit.int .u8 x).wf = true) : ∃ k, laws_FnMachineOk.f k l0 = some true := by
  obtain ⟨k, hk⟩ := okM_ev l0 w0
  exact ⟨k, hk k (Nat.le_refl _)⟩
end Go.Proofs.Ytgaapfldimokpaa.Pure
