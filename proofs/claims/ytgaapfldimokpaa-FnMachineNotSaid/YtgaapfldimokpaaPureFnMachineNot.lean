/- The law FnMachineNot over plain bytes: it answers true; no condition but the argument's range. -/
import Derived.Test.YtgaapfldimokpaaSemDrawMach
import Derived.Test.YtgaapfldimokpaaSemNot2
import Derived.Test.YtgaapfldimokpaaSemNotS
import Derived.Test.YtgaapfldimokpaaPAx28
namespace Go.Proofs.Ytgaapfldimokpaa.Pure
open Go.RowKit Go.Proofs.Ytgaapfldimokpaa.PA Go.Proofs.Ytgaapfldimokpaa.Sem Go.Proofs.YtgaapfldimokpaaW.PrintWords Go.Proofs.YtgaapfldimokpaaW.PrintLast
set_option linter.unusedVariables false
set_option linter.unusedSimpArgs false

theorem sameInts_from (l : List Int) (hl : l.length ≤ 1000) (d : Nat) : ∀ i, i + d = l.length → Ev (fun k => laws_sameInts.l0 k l l (i : Int)) true := by
  induction d with
  | zero =>
    intro i hi
    refine ev_succ ?_
    simp only [laws_sameInts.l0]
    simp only [if_neg (show ¬ (i : Int) < (l.length : Int) by omega)]
    exact Ev.now _
  | succ d ih =>
    intro i hi
    have hr := ih (i + 1) (by omega)
    have g1 : (i : Int) < (l.length : Int) := by omega
    have g0 : (0 : Int) ≤ (i : Int) := by omega
    have hw : wrap64 ((i : Int) + 1) = ((i + 1 : Nat) : Int) := by unfold wrap64; omega
    refine ev_succ ?_
    simp only [laws_sameInts.l0]
    simp only [if_pos g1, if_pos g0, if_true, hw]
    exact hr
theorem sameInts_self (l : List Int) (hl : l.length ≤ 1000) : Ev (fun k => laws_sameInts.f k l l) true := by
  unfold laws_sameInts.f
  simp only [if_true]
  exact sameInts_from l hl l.length 0 (by omega)
theorem sameMachine_self (a b c : List Int) (ha : a.length ≤ 1000) (hb : b.length ≤ 1000) (hc : c.length ≤ 1000) : Ev (fun k => laws_sameMachine.f k a b c a b c) true := by
  unfold laws_sameMachine.f
  refine Ev.bind (sameInts_self a ha) ?_
  simp only [if_true]
  refine Ev.bind (sameInts_self b hb) ?_
  simp only [if_true]
  refine Ev.bind (sameInts_self c hc) ?_
  exact Ev.now _
theorem notM_ev (l0 : List Int) (w0 : ∀ x ∈ l0, (Lit.int .u8 x).wf = true) : Ev (fun k => laws_FnMachineNot.f k l0) true := by
  unfold laws_FnMachineNot.f
  by_cases h0 : (l0.length : Int) > 1048576
  · simp only [if_pos h0]; exact Ev.now _
  · simp only [if_neg h0]
    obtain ⟨b, hb, hR⟩ := open_ok w0
    obtain ⟨r, hr, hS⟩ := l20Machine_ok hR (by omega) 9 (by omega)
    have hD : Ev (fun k => spec_DrawMachineNot.f k l0) (r.1, r.2.1, r.2.2.1) := by
      unfold spec_DrawMachineNot.f
      exact Ev.bind (ev1 (fun _ => hb)) (Ev.bind hr (Ev.now _))
    obtain ⟨n1, n2, n3⟩ := notM_len r.1 r.2.1 r.2.2.1
    refine Ev.bind hD ?_
    refine Ev.bind (impl_MachineNot_eq r.1 r.2.1 r.2.2.1) ?_
    refine Ev.bind (spec_MachineNot_eq r.1 r.2.1 r.2.2.1 (by have := hS.1; omega)) ?_
    refine Ev.bind (sameMachine_self _ _ _ (by omega) (by omega) (by omega)) ?_
    simp only [if_true]
    by_cases hM : MachOk r.1 r.2.1 r.2.2.1
    · have hl : ¬ (((Sem.notM r.1 r.2.1 r.2.2.1).1.length : Nat) : Int) = 0 := by
        unfold Sem.notM; rw [if_pos hM]; have := hM.1.1; show ¬ ((r.1.length : Nat) : Int) = 0; omega
      simp only [if_neg hl]
      refine Ev.bind (impl_MachineNot_eq _ _ _) ?_
      rw [notM_notM hM]
      have := hS.1
      have := hS.2.1
      have := hS.2.2
      exact Ev.bind (sameMachine_self r.1 r.2.1 r.2.2.1 (by omega) (by omega) (by omega)) (Ev.now _)
    · have hl : (((Sem.notM r.1 r.2.1 r.2.2.1).1.length : Nat) : Int) = 0 := by
        unfold Sem.notM; rw [if_neg hM]; rfl
      simp only [if_pos hl]
      refine Ev.bind (impl_MachineOk_eq r.1 r.2.1 r.2.2.1) ?_
      simp only [decide_eq_false hM, Bool.false_eq_true, if_false]
      exact Ev.bind (ev1 (fun _ => alive_ok)) (Ev.now _)
theorem FnMachineNot (l0 : List Int) (b0 : l0.length ≤ 9223372036854775807) (w0 : ∀ x ∈ l0, (Lit.int .u8 x).wf = true) : ∃ k, laws_FnMachineNot.f k l0 = some true := by
  obtain ⟨k, hk⟩ := notM_ev l0 w0
  exact ⟨k, hk k (Nat.le_refl _)⟩
end Go.Proofs.Ytgaapfldimokpaa.Pure
