/- The law FnAnyOrder: what it answers, and that its call answers just this; no condition. -/
import Derived.Test.YtgaapfldimokpaaManLawOrder
import Derived.Test.YtgaapfldimokpaaSemDrawMach
import Derived.Test.YtgaapfldimokpaaSemOrder
import Derived.Test.YtgaapfldimokpaaSemNot2
namespace Go.Proofs.Ytgaapfldimokpaa.Sem
open Go.RowKit Go.Proofs.Ytgaapfldimokpaa.PA Go.Proofs.YtgaapfldimokpaaW.PrintWords Go.Proofs.YtgaapfldimokpaaW.PrintLast Go.Proofs.YtgaapfldimokpaaW.PrintMore
set_option linter.unusedVariables false
set_option linter.unusedSimpArgs false

theorem named_every : Ev (fun k => impl_NamedMachine.f k (⟨#[101, 118, 101, 114, 121]⟩ : ByteArray)) ([1, 1], [0, 1], [1, 0], true) := ev1 (fun k => by
  unfold impl_NamedMachine.f
  rw [nm_data]
  exact if_pos rfl)
theorem named_even : Ev (fun k => impl_NamedMachine.f k (⟨#[101, 118, 101, 110]⟩ : ByteArray)) ([0, 1], [1, 0], [1, 0], true) := ev1 (fun k => by
  unfold impl_NamedMachine.f
  rw [nm_data]
  rw [if_neg (by decide)]
  exact if_pos rfl)
theorem two_of {a b c : List Int} (h : MachOk a b c) (h2 : a.length = 2) (k0 : rd b (rd a 0) = rd a (rd b 0)) (k1 : rd b (rd a 1) = rd a (rd b 1)) : AnyO a b c := by
  refine ⟨h, fun x hx => ?_⟩
  obtain ⟨S, hn⟩ := h.steps
  have hr := hx.range S ⟨by omega, by omega⟩
  rcases (show x = 0 ∨ x = 1 by omega) with rfl | rfl
  · exact k0
  · exact k1
theorem any_every : AnyO [1, 1] [0, 1] [1, 0] := two_of (by decide) rfl rfl rfl
theorem any_even : AnyO [0, 1] [1, 0] [1, 0] := two_of (by decide) rfl rfl rfl
theorem any_not (a b c : List Int) : AnyO (Go.Proofs.Ytgaapfldimokpaa.Sem.notM a b c).1 (Go.Proofs.Ytgaapfldimokpaa.Sem.notM a b c).2.1 (Go.Proofs.Ytgaapfldimokpaa.Sem.notM a b c).2.2 ↔ AnyO a b c := by
  by_cases h : MachOk a b c
  · have e : Go.Proofs.Ytgaapfldimokpaa.Sem.notM a b c = (a, b, c.map fun x => wrap64 (1 - x)) := by unfold Go.Proofs.Ytgaapfldimokpaa.Sem.notM; rw [if_pos h]
    rw [e]
    exact ⟨fun x => ⟨h, x.2⟩, fun x => ⟨not_ok h, x.2⟩⟩
  · have e : Go.Proofs.Ytgaapfldimokpaa.Sem.notM a b c = ([], [], []) := by unfold Go.Proofs.Ytgaapfldimokpaa.Sem.notM; rw [if_neg h]
    rw [e]
    refine ⟨fun x => ?_, fun x => absurd x.1 h⟩
    have := x.1.1.1
    exact absurd this (by decide)


theorem ev_some {α : Type} {g : Nat → Option α} {x : α} (h : Ev g x) : ∃ k, g k = Option.some x := by
  obtain ⟨k, hk⟩ := h
  exact ⟨k, hk k (Nat.le_refl _)⟩
theorem order_facts (l0 : List Int) (w0 : ∀ x ∈ l0, (Lit.int .u8 x).wf = true) : ∃ kd k1 k2 k3 k4 k5 k6 k7 k8 o r0 r1 r2 n0 n1 n2 e0 e1 e2 f0 f1 f2, Go.Proofs.Ytgaapfldimokpaa.Man.OrderFacts l0 kd k1 k2 k3 k4 k5 k6 k7 k8 o r0 r1 r2 n0 n1 n2 e0 e1 e2 f0 f1 f2 := by
  obtain ⟨b, hb, hR⟩ := open_ok w0
  obtain ⟨r, hr, hS⟩ := l20Machine_ok hR (by omega) 12 (by omega)
  have hD : Ev (fun k => spec_DrawAnyOrder.f k l0) (r.1, r.2.1, r.2.2.1) := by
    unfold spec_DrawAnyOrder.f
    exact Ev.bind (ev1 (fun _ => hb)) (Ev.bind hr (Ev.now _))
  obtain ⟨o1, i1, e1⟩ := impl_AnyOrder_eq r.1 r.2.1 r.2.2.1
  obtain ⟨o2, i2, e2⟩ := spec_AnyOrder_eq r.1 r.2.1 r.2.2.1 (by have := hS.1; omega)
  obtain rfl : o1 = o2 := by rw [Bool.eq_iff_iff, e1, e2]
  obtain ⟨o3, i3, e3⟩ := impl_AnyOrder_eq (Go.Proofs.Ytgaapfldimokpaa.Sem.notM r.1 r.2.1 r.2.2.1).1 (Go.Proofs.Ytgaapfldimokpaa.Sem.notM r.1 r.2.1 r.2.2.1).2.1 (Go.Proofs.Ytgaapfldimokpaa.Sem.notM r.1 r.2.1 r.2.2.1).2.2
  obtain rfl : o3 = o1 := by rw [Bool.eq_iff_iff, e3, e1, any_not]
  obtain ⟨o4, i4, e4⟩ := impl_AnyOrder_eq [1, 1] [0, 1] [1, 0]
  obtain rfl : o4 = true := e4.2 any_every
  obtain ⟨o5, i5, e5⟩ := impl_AnyOrder_eq [0, 1] [1, 0] [1, 0]
  obtain rfl : o5 = true := e5.2 any_even
  obtain ⟨kd, hd⟩ := ev_some hD
  obtain ⟨k1, h1⟩ := ev_some i1
  obtain ⟨k2, h2⟩ := ev_some i2
  obtain ⟨k3, h3⟩ := ev_some named_every
  obtain ⟨k4, h4⟩ := ev_some named_even
  obtain ⟨k5, h5⟩ := ev_some (impl_MachineNot_eq r.1 r.2.1 r.2.2.1)
  obtain ⟨k6, h6⟩ := ev_some i3
  obtain ⟨k7, h7⟩ := ev_some i4
  obtain ⟨k8, h8⟩ := ev_some i5
  exact ⟨kd, k1, k2, k3, k4, k5, k6, k7, k8, _, _, _, _, _, _, _, _, _, _, _, _, _, hd, h1, h2, h3, h4, h5, h6, h7, h8⟩
end Go.Proofs.Ytgaapfldimokpaa.Sem
namespace Go.Proofs.Ytgaapfldimokpaa.PA
open Go.RowKit Go.Proofs.YtgaapfldimokpaaW.PrintWords Go.Proofs.YtgaapfldimokpaaW.PrintLast Go.Proofs.YtgaapfldimokpaaW.PrintMore
set_option linter.unusedVariables false
set_option linter.unusedSimpArgs false
def laws_FnAnyOrder.f (k : Nat) (l0 : List Int) : Option (Bool) := if ∀ x ∈ l0, (Lit.int .u8 x).wf = true then some true else none
theorem laws_FnAnyOrder.calls (k : Nat) (A0 : Option Addr) (c0 : Nat) (l0 : List Int) (r : Bool) (w : World) (hr0 : Kd.C (Kd.int .u8) w A0 l0.length l0) (hc0 : l0.length ≤ c0) (h : laws_FnAnyOrder.f k l0 = some r) :
    Calls Try.prog 7 #[.slice A0 l0.length c0] w fun e w' => e = .returned (.bool r) ∧ Below w.heap.size w w' := by
  unfold laws_FnAnyOrder.f at h
  by_cases hw : ∀ x ∈ l0, (Lit.int .u8 x).wf = true
  · rw [if_pos hw] at h
    obtain rfl := Option.some.inj h
    exact Man.lawOrder A0 c0 l0 w hr0 hc0 (Or.inr (Sem.order_facts l0 hw))
  · rw [if_neg hw] at h
    exact absurd h (by simp)
end Go.Proofs.Ytgaapfldimokpaa.PA
