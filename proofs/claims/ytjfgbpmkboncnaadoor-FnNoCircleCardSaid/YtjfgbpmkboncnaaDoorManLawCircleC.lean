/- The law FnNoCircle: what it answers, and that its call answers just this; no condition. -/
import Derived.Test.YtjfgbpmkboncnaaDoorManLawCircle
import Derived.Test.YtjfgbpmkboncnaaDoorSemDrawMach
import Derived.Test.YtjfgbpmkboncnaaDoorSemAll
namespace Go.Proofs.YtjfgbpmkboncnaaDoor.Sem
open Go.RowKit Go.Proofs.YtjfgbpmkboncnaaDoor.PA Go.Proofs.YtjfgbpmkboncnaaDoorW.PrintWords Go.Proofs.YtjfgbpmkboncnaaDoorW.PrintLast Go.Proofs.YtjfgbpmkboncnaaDoorW.PrintMore
set_option linter.unusedVariables false
set_option linter.unusedSimpArgs false

theorem noc_not (a b c : List Int) : NoC (Go.Proofs.YtjfgbpmkboncnaaDoor.Sem.notM a b c).1 (Go.Proofs.YtjfgbpmkboncnaaDoor.Sem.notM a b c).2.1 (Go.Proofs.YtjfgbpmkboncnaaDoor.Sem.notM a b c).2.2 ↔ NoC a b c := by
  by_cases h : MachOk a b c
  · have e : Go.Proofs.YtjfgbpmkboncnaaDoor.Sem.notM a b c = (a, b, c.map fun x => wrap64 (1 - x)) := by unfold Go.Proofs.YtjfgbpmkboncnaaDoor.Sem.notM; rw [if_pos h]
    rw [e]
    exact ⟨fun x => ⟨h, x.2⟩, fun x => ⟨not_ok h, x.2⟩⟩
  · have e : Go.Proofs.YtjfgbpmkboncnaaDoor.Sem.notM a b c = ([], [], []) := by unfold Go.Proofs.YtjfgbpmkboncnaaDoor.Sem.notM; rw [if_neg h]
    rw [e]
    refine ⟨fun x => ?_, fun x => absurd x.1 h⟩
    have := x.1.1.1
    exact absurd this (by decide)
theorem app_list (x y : ByteArray) : (x ++ y).data.toList = x.data.toList ++ y.data.toList := by rw [ByteArray.data_append, Array.toList_append]
theorem ev_some {α : Type} {g : Nat → Option α} {x : α} (h : Ev g x) : ∃ k, g k = some x := by
  obtain ⟨k, hk⟩ := h
  exact ⟨k, hk k (Nat.le_refl _)⟩
theorem circle_facts (l0 : List Int) (w0 : ∀ x ∈ l0, (Lit.int .u8 x).wf = true) : ∃ kd k1 k2 k3 k4 k5 k6 k7 k8 o q r0 r1 r2 n0 n1 n2, spec_DrawNoCircle.f kd l0 = some (r0, r1, r2) ∧ impl_NoCircle.f k1 r0 r1 r2 = some o ∧ spec_NoCircle.f k2 r0 r1 r2 = some o ∧ Man.Ways k3 k4 k5 k6 k7 k8 o q r0 r1 r2 n0 n1 n2 := by
  obtain ⟨b, hb, hR⟩ := open_ok w0
  obtain ⟨r, hr, hS⟩ := l20Machine_ok hR (by omega) 12 (by omega)
  have hD : Ev (fun k => spec_DrawNoCircle.f k l0) (r.1, r.2.1, r.2.2.1) := by
    unfold spec_DrawNoCircle.f
    exact Ev.bind (ev1 (fun _ => hb)) (Ev.bind hr (Ev.now _))
  obtain ⟨o1, i1, e1⟩ := impl_NoCircle_eq r.1 r.2.1 r.2.2.1
  obtain ⟨o2, i2, e2⟩ := spec_NoCircle_eq r.1 r.2.1 r.2.2.1 (by have := hS.1; omega)
  obtain rfl : o1 = o2 := by rw [Bool.eq_iff_iff, e1, e2]
  obtain ⟨o3, i3, e3⟩ := impl_AnyOrder_eq r.1 r.2.1 r.2.2.1
  obtain ⟨o4, i4, e4⟩ := impl_NoCircle_eq (Go.Proofs.YtjfgbpmkboncnaaDoor.Sem.notM r.1 r.2.1 r.2.2.1).1 (Go.Proofs.YtjfgbpmkboncnaaDoor.Sem.notM r.1 r.2.1 r.2.2.1).2.1 (Go.Proofs.YtjfgbpmkboncnaaDoor.Sem.notM r.1 r.2.1 r.2.2.1).2.2
  obtain rfl : o4 = o1 := by rw [Bool.eq_iff_iff, e4, e1, noc_not]
  obtain ⟨kd, hd⟩ := ev_some hD
  obtain ⟨k1, h1⟩ := ev_some i1
  obtain ⟨k2, h2⟩ := ev_some i2
  obtain ⟨k3, h3⟩ := ev_some i3
  obtain ⟨k4, h4⟩ := ev_some (impl_MachineNot_eq r.1 r.2.1 r.2.2.1)
  obtain ⟨k5, h5⟩ := ev_some i4
  cases o4 with
  | false => exact ⟨kd, k1, k2, 0, k4, k5, 0, 0, 0, false, true, _, _, _, _, _, _, hd, h1, h2, Or.inl ⟨rfl, h4, h5⟩⟩
  | true =>
    cases o3 with
    | false => exact ⟨kd, k1, k2, k3, k4, k5, 0, 0, 0, true, true, _, _, _, _, _, _, hd, h1, h2, Or.inr (Or.inl ⟨rfl, h3, h4, h5⟩)⟩
    | true =>
      have hN := e1.1 rfl
      have hO := e3.1 rfl
      have h12 := hN.1.1.2.1
      generalize r.1 = a, r.2.1 = b', r.2.2.1 = c' at *
      have sz : (Man.rep 48 a.length ++ Man.rep 49 a.length).size = a.length + a.length := by rw [ByteArray.size_append, Man.rep_size, Man.rep_size]
      have e0 : (Man.rep 48 a.length ++ Man.rep 49 a.length).data.toList = List.replicate a.length 48 ++ (List.replicate a.length 49 ++ []) := by rw [app_list, Man.rep_list, Man.rep_list, List.append_nil]
      have e1' : ((Man.rep 48 a.length ++ Man.rep 49 a.length) ++ (⟨#[49]⟩ : ByteArray)).data.toList = List.replicate a.length 48 ++ (List.replicate a.length 49 ++ [49]) := by rw [app_list, app_list, Man.rep_list, Man.rep_list, List.append_assoc]
      have e2' : ((Man.rep 48 a.length ++ Man.rep 49 a.length) ++ (⟨#[48]⟩ : ByteArray)).data.toList = List.replicate a.length 48 ++ (List.replicate a.length 49 ++ [48]) := by rw [app_list, app_list, Man.rep_list, Man.rep_list, List.append_assoc]
      have s1 : ((Man.rep 48 a.length ++ Man.rep 49 a.length) ++ (⟨#[49]⟩ : ByteArray)).size = a.length + a.length + 1 := by rw [ByteArray.size_append, sz]; rfl
      have s2 : ((Man.rep 48 a.length ++ Man.rep 49 a.length) ++ (⟨#[48]⟩ : ByteArray)).size = a.length + a.length + 1 := by rw [ByteArray.size_append, sz]; rfl
      have r0 := impl_SaysYes_eq a b' c' (Man.rep 48 a.length ++ Man.rep 49 a.length) (by omega)
      have r1 := impl_SaysYes_eq a b' c' ((Man.rep 48 a.length ++ Man.rep 49 a.length) ++ (⟨#[49]⟩ : ByteArray)) (by omega)
      have r2 := impl_SaysYes_eq a b' c' ((Man.rep 48 a.length ++ Man.rep 49 a.length) ++ (⟨#[48]⟩ : ByteArray)) (by omega)
      rw [e0] at r0
      rw [e1', says_long hN hO [49] (Or.inr rfl)] at r1
      rw [e2', says_long hN hO [48] (Or.inl rfl)] at r2
      obtain ⟨k6, h6⟩ := ev_some r0
      obtain ⟨k7, h7⟩ := ev_some r1
      obtain ⟨k8, h8⟩ := ev_some r2
      exact ⟨kd, k1, k2, k3, 0, 0, k6, k7, k8, true, _, _, _, _, [], [], [], hd, h1, h2, Or.inr (Or.inr ⟨rfl, h3, h12, h6, h7, h8⟩)⟩
end Go.Proofs.YtjfgbpmkboncnaaDoor.Sem
namespace Go.Proofs.YtjfgbpmkboncnaaDoor.PA
open Go.RowKit Go.Proofs.YtjfgbpmkboncnaaDoorW.PrintWords Go.Proofs.YtjfgbpmkboncnaaDoorW.PrintLast Go.Proofs.YtjfgbpmkboncnaaDoorW.PrintMore
set_option linter.unusedVariables false
set_option linter.unusedSimpArgs false
def laws_FnNoCircle.f (k : Nat) (l0 : List Int) : Option (Bool) := if ∀ x ∈ l0, (Lit.int .u8 x).wf = true then some true else none
theorem laws_FnNoCircle.calls (k : Nat) (A0 : Option Addr) (c0 : Nat) (l0 : List Int) (r : Bool) (w : World) (hr0 : Kd.C (Kd.int .u8) w A0 l0.length l0) (hc0 : l0.length ≤ c0) (h : laws_FnNoCircle.f k l0 = some r) :
    Calls Tryd.prog 4 #[.slice A0 l0.length c0] w fun e w' => e = .returned (.bool r) ∧ Below w.heap.size w w' := by
  unfold laws_FnNoCircle.f at h
  by_cases hw : ∀ x ∈ l0, (Lit.int .u8 x).wf = true
  · rw [if_pos hw] at h
    obtain rfl := Option.some.inj h
    exact Man.lawCircle A0 c0 l0 w hr0 hc0 (Or.inr (Sem.circle_facts l0 hw))
  · rw [if_neg hw] at h
    exact absurd h (by simp)
end Go.Proofs.YtjfgbpmkboncnaaDoor.PA
