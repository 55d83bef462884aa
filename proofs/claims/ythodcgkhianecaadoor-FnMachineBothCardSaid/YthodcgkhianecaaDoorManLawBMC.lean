/- The law FnMachineBoth: what its calls answer; no condition but the bytes' range. -/
import Derived.Test.YthodcgkhianecaaDoorManLawBM
import Derived.Test.YthodcgkhianecaaDoorSemA
import Derived.Test.YthodcgkhianecaaDoorSemTriI
import Derived.Test.YthodcgkhianecaaDoorManBothOf
import Derived.Test.YthodcgkhianecaaDoorPAx26
import Derived.Test.YthodcgkhianecaaDoorPAx29
namespace Go.Proofs.YthodcgkhianecaaDoor.Sem
open Go.RowKit Go.Proofs.YthodcgkhianecaaDoor.PA Go.Proofs.YthodcgkhianecaaDoorW.PrintWords Go.Proofs.YthodcgkhianecaaDoorW.PrintLast Go.Proofs.YthodcgkhianecaaDoorW.PrintMore
set_option linter.unusedVariables false
set_option linter.unusedSimpArgs false

theorem ev_some {α : Type} {g : Nat → Option α} {x : α} (h : Ev g x) : ∃ k, g k = Option.some x := by
  obtain ⟨k, hk⟩ := h
  exact ⟨k, hk k (Nat.le_refl _)⟩
theorem sameMachine_self (a b c : List Int) (ha : a.length ≤ 1000) (hb : b.length ≤ 1000) (hc : c.length ≤ 1000) : Ev (fun k => laws_sameMachine.f k a b c a b c) true := by
  unfold laws_sameMachine.f
  refine Ev.bind (sameInts_self a ha) ?_
  simp only [if_true]
  refine Ev.bind (sameInts_self b hb) ?_
  simp only [if_true]
  refine Ev.bind (sameInts_self c hc) ?_
  exact Ev.now _
theorem hB_tri (p : Nat → Nat → Bool) (a s : Nat) (ha : a ≤ 5) (hs : s ≤ a) : Man.hB (Man.triRow p) a s = p a s := by
  unfold Man.hB
  rw [triRow_at p a s ha hs, ent_one]
theorem bothOf_eq (p q : Nat → Nat → Bool) : Ev (fun k => impl_BothOf.f k (Man.triRow p) (Man.triRow q)) (Man.triRow (fun a s => p a s && q a s)) := by
  have e : Man.triRow (Man.boP (Man.triRow p) (Man.triRow q)) = Man.triRow (fun a s => p a s && q a s) := triRow_congr (fun a s ha hs => by
    unfold Man.boP
    rw [hB_tri p a s ha hs, hB_tri q a s ha hs])
  rw [← e]
  unfold impl_BothOf.f Man.bothF
  refine Ev.bind (isTri_eq p) ?_
  simp only [if_true]
  refine Ev.bind (isTri_eq q) ?_
  simp only [if_true]
  rw [if_pos ⟨by rw [triRow_len]; omega, by rw [triRow_len]; omega⟩]
  exact Ev.now _
theorem bm_facts (l m : List Int) (wl : ∀ x ∈ l, (Lit.int .u8 x).wf = true) (wm : ∀ x ∈ m, (Lit.int .u8 x).wf = true) : ∃ kd k1 k2 k3 p0 p1 p2 q0 q1 q2 x0 x1 x2 b, Go.Proofs.YthodcgkhianecaaDoor.Man.BmFacts l kd k1 k2 k3 p0 p1 p2 q0 q1 q2 x0 x1 x2 b ∧ ((b = false ∧ x0 = []) ∨ (b = true ∧ ∃ j1 j2 j3 j4 j5 j6 j7 j8 z0 z1 z2 s u v a1 a2, Go.Proofs.YthodcgkhianecaaDoor.Man.BmTold m j1 j2 j3 j4 j5 j6 j7 j8 p0 p1 p2 q0 q1 q2 x0 x1 x2 z0 z1 z2 s u v a1 a2 ∧ (a1 = true → a2 = true → ∃ i1 i2 i3 i4 i5 i6 T U V, Go.Proofs.YthodcgkhianecaaDoor.Man.BmTri i1 i2 i3 i4 i5 i6 p0 p1 p2 q0 q1 q2 x0 x1 x2 T U V))) := by
  obtain ⟨p0, p1, p2, q0, q1, q2, hD, hP, hQ⟩ := drawBoth_ok wl
  obtain ⟨kd, hd⟩ := ev_some hD
  have len := bothM_len p0 p1 p2 q0 q1 q2
  obtain ⟨k1, h1⟩ := ev_some (impl_MachineBoth_eq p0 p1 p2 q0 q1 q2)
  obtain ⟨k2, h2⟩ := ev_some (spec_MachineBoth_eq p0 p1 p2 q0 q1 q2 (by omega) (by omega))
  obtain ⟨k3, h3⟩ := ev_some (sameMachine_self (bothM p0 p1 p2 q0 q1 q2).1 (bothM p0 p1 p2 q0 q1 q2).2.1 (bothM p0 p1 p2 q0 q1 q2).2.2.1 (by omega) (by omega) (by omega))
  refine ⟨kd, k1, k2, k3, p0, p1, p2, q0, q1, q2, (bothM p0 p1 p2 q0 q1 q2).1, (bothM p0 p1 p2 q0 q1 q2).2.1, (bothM p0 p1 p2 q0 q1 q2).2.2.1, (bothM p0 p1 p2 q0 q1 q2).2.2.2, ⟨hd, h1, h2, h3⟩, ?_⟩
  by_cases hN : ¬ (MachOk p0 p1 p2 ∧ MachOk q0 q1 q2 ∧ p0.length * q0.length ≤ 12)
  · have e : bothM p0 p1 p2 q0 q1 q2 = ([], [], [], false) := by unfold bothM; rw [if_neg hN]
    left
    rw [e]
    exact ⟨rfl, rfl⟩
  have hM := Decidable.not_not.1 hN
  right
  have e : bothM p0 p1 p2 q0 q1 q2 = (segs (fz p0 q0) q0.length 0 p0.length, segs (fz p1 q1) q0.length 0 p0.length, segs (fy p2 q2) q0.length 0 p0.length, true) := by unfold bothM; rw [if_pos hM]
  rw [e]
  obtain ⟨A, B, hm⟩ := hM
  have hX := prod_ok A B hm
  refine ⟨rfl, ?_⟩
  obtain ⟨z0, z1, z2, s, hT, _, hs⟩ := drawSays_ok wm
  obtain ⟨j1, g1⟩ := ev_some hT
  have gx := impl_SaysYes_eq (segs (fz p0 q0) q0.length 0 p0.length) (segs (fz p1 q1) q0.length 0 p0.length) (segs (fy p2 q2) q0.length 0 p0.length) s (by omega)
  have ex : saysB (segs (fz p0 q0) q0.length 0 p0.length) (segs (fz p1 q1) q0.length 0 p0.length) (segs (fy p2 q2) q0.length 0 p0.length) s.data.toList = (saysB p0 p1 p2 s.data.toList && saysB q0 q1 q2 s.data.toList) := by
    unfold saysB
    rw [prod_yes A B hm, decide_eq_true hX, decide_eq_true A, decide_eq_true B]
    cases bitsOk s.data.toList <;> simp
  rw [ex] at gx
  obtain ⟨j2, g2⟩ := ev_some gx
  obtain ⟨j3, g3⟩ := ev_some (impl_SaysYes_eq p0 p1 p2 s (by omega))
  obtain ⟨j4, g4⟩ := ev_some (impl_SaysYes_eq q0 q1 q2 s (by omega))
  have go := impl_MachineOk_eq (segs (fz p0 q0) q0.length 0 p0.length) (segs (fz p1 q1) q0.length 0 p0.length) (segs (fy p2 q2) q0.length 0 p0.length)
  rw [decide_eq_true hX] at go
  obtain ⟨j5, g5⟩ := ev_some go
  obtain ⟨a1, E6, e6⟩ := impl_AnyOrder_eq p0 p1 p2
  obtain ⟨a2, E7, e7⟩ := impl_AnyOrder_eq q0 q1 q2
  obtain ⟨j6, g6⟩ := ev_some E6
  obtain ⟨j7, g7⟩ := ev_some E7
  refine ⟨j1, j2, j3, j4, j5, j6, j7, 0, z0, z1, z2, s, _, _, a1, a2, ⟨g1, g2, g3, g4, g5, g6, g7⟩, fun y1 y2 => ?_⟩
  have HA := e6.1 y1
  have HB := e7.1 y2
  have HX := prod_any A B hm HA HB
  obtain ⟨o, Eo, eo⟩ := impl_AnyOrder_eq (segs (fz p0 q0) q0.length 0 p0.length) (segs (fz p1 q1) q0.length 0 p0.length) (segs (fy p2 q2) q0.length 0 p0.length)
  rw [eo.2 HX] at Eo
  obtain ⟨i1, f1⟩ := ev_some Eo
  have tx : triOf (segs (fz p0 q0) q0.length 0 p0.length) (segs (fz p1 q1) q0.length 0 p0.length) (segs (fy p2 q2) q0.length 0 p0.length) = Man.triRow (fun a t => Man.triP p0 p1 p2 a t && Man.triP q0 q1 q2 a t) := by
    unfold triOf
    rw [if_pos HX]
    refine triRow_congr (fun a t _ _ => ?_)
    unfold Man.triP
    exact prod_yes A B hm _
  have tm : triOf p0 p1 p2 = Man.triRow (Man.triP p0 p1 p2) := by unfold triOf; rw [if_pos HA]
  have tn : triOf q0 q1 q2 = Man.triRow (Man.triP q0 q1 q2) := by unfold triOf; rw [if_pos HB]
  have Ex := impl_TriangleOf_eq (segs (fz p0 q0) q0.length 0 p0.length) (segs (fz p1 q1) q0.length 0 p0.length) (segs (fy p2 q2) q0.length 0 p0.length)
  have Em := impl_TriangleOf_eq p0 p1 p2
  have En := impl_TriangleOf_eq q0 q1 q2
  rw [tx] at Ex
  rw [tm] at Em
  rw [tn] at En
  obtain ⟨i2, f2⟩ := ev_some Ex
  obtain ⟨i3, f3⟩ := ev_some Em
  obtain ⟨i4, f4⟩ := ev_some En
  obtain ⟨i5, f5⟩ := ev_some (bothOf_eq (Man.triP p0 p1 p2) (Man.triP q0 q1 q2))
  obtain ⟨i6, f6⟩ := ev_some (sameInts_self (Man.triRow (fun a t => Man.triP p0 p1 p2 a t && Man.triP q0 q1 q2 a t)) (by rw [triRow_len]; omega))
  exact ⟨i1, i2, i3, i4, i5, i6, _, _, _, ⟨f1, f2, f3, f4, f5, f6⟩⟩
end Go.Proofs.YthodcgkhianecaaDoor.Sem
