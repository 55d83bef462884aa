/- impl.anyOrder: its closure, and the call: it answers whether the two letters lead to the same state from each reached one; no condition but that the letters lead to states. -/
import Derived.Test.YthodcgkhianecaaDoorManInts
import Derived.Test.YthodcgkhianecaaDoorPAx19
namespace Go.Proofs.YthodcgkhianecaaDoor.Man
open Go.RowKit Go.Proofs.YthodcgkhianecaaDoor.PA Go.Proofs.YthodcgkhianecaaDoorW.PrintWords Go.Proofs.YthodcgkhianecaaDoorW.PrintLast Go.Proofs.YthodcgkhianecaaDoorW.PrintMore
set_option linter.unusedVariables false
set_option linter.unusedSimpArgs false

/-- The letters lead from a state to states. -/
def InR (a b : List Int) (x : Int) : Prop := (0 ≤ x ∧ x < a.length ∧ x < b.length) ∧ (0 ≤ rd a x ∧ rd a x < b.length) ∧ (0 ≤ rd b x ∧ rd b x < a.length)
instance (a b : List Int) (x : Int) : Decidable (InR a b x) := by unfold InR; infer_instance
/-- The two letters lead to two states. -/
def diff (a b : List Int) (x : Int) : Bool := rd b (rd a x) != rd a (rd b x)

set_option maxHeartbeats 4000000 in
theorem anyOrder1 (B : Nat) (A0 A1 : Option Addr) (c0 c1 : Nat) (l0 l1 : List Int) (w : World) (hB : B < w.heap.size) (h0 : w.cell? ⟨B, 0, none⟩ = some (.slice A0 l0.length c0)) (h1 : w.cell? ⟨B, 1, none⟩ = some (.slice A1 l1.length c1))
    (r0 : Kd.C (Kd.int .i64) w A0 l0.length l0) (r1 : Kd.C (Kd.int .i64) w A1 l1.length l1) (l : List Int) (hl : ∀ x ∈ l, InR l0 l1 x) :
    ManI.PredInt 50 #[.pointer (some ⟨B, 0, none⟩)] (diff l0 l1) w l := by
  intro W x hx hb
  obtain ⟨⟨p0, p1, p2⟩, ⟨q0, q1⟩, ⟨s0, s1⟩⟩ := hl x hx
  have h0' := (hb.cell (p := ⟨B, 0, none⟩) hB).trans h0
  have h1' := (hb.cell (p := ⟨B, 1, none⟩) hB).trans h1
  have R0 := Kd.C_below r0 hb
  have R1 := Kd.C_below r1 hb
  clear h0 h1 r0 r1 hl hx
  obtain ⟨ad0, e0, x0⟩ := Kd.at_int R0 x p0 p1
  cases e0
  obtain ⟨ad1, e1, x1⟩ := Kd.at_int R1 x p0 p2
  cases e1
  obtain ⟨_, e2, x2⟩ := Kd.at_int R1 (rd l0 x) q0 q1
  cases e2
  obtain ⟨_, e3, x3⟩ := Kd.at_int R0 (rd l1 x) s0 s1
  cases e3
  have HB := Aside0.mk (Below.refl W.heap.size W)
  have HN : B < W.heap.size := Nat.lt_of_lt_of_le hB hb.size
  have hne : ¬ W.heap.size = B := by omega
  clear R0 R1 hb hB
  obtain ⟨u, hu⟩ : ∃ u, rd l0 x = u := ⟨_, rfl⟩
  obtain ⟨v, hv⟩ : ∃ v, rd l1 x = v := ⟨_, rfl⟩
  have HD : Aside0 (diff l0 l1 x = (rd l1 u != rd l0 v)) := ⟨by unfold diff; rw [hu, hv]⟩
  rw [hu] at x0 x2 q0 q1
  rw [hv] at x1 x3 s0 s1
  clear hu hv
  go_enter Tryd.func50, Tryd.ntmps50
  go_wp2
  repeat (go_quiet (fail); try go_wp2)
  go_ret
  exact ⟨by rw [HD.out]; rfl, by repeat (first | (with_reducible first | exact HB.out | apply below_alloc | apply pw_below_drewN | apply below_drew1) | exact HB.out)⟩

/-- What anyOrder answers. -/
def anyOrderF (k : Nat) (l0 l1 l2 : List Int) : Option Bool := (impl_Machine_reached.f k l0 l1 l2 0).bind fun r => if ∀ x ∈ r, InR l0 l1 x then some (!r.any (diff l0 l1)) else none
theorem anyOrder_mono : ∀ a0 a1 a2 k, LeO (anyOrderF k a0 a1 a2) (anyOrderF (k + 1) a0 a1 a2) := by
  intro a0 a1 a2 k
  unfold anyOrderF
  exact LeO.bind (impl_Machine_reached.mono _ _ _ _ _) (fun _ => LeO.refl _)

set_option maxHeartbeats 4000000 in
theorem anyOrder (k : Nat) (A0 : Option Addr) (c0 : Nat) (l0 : List Int) (A1 : Option Addr) (c1 : Nat) (l1 : List Int) (A2 : Option Addr) (c2 : Nat) (l2 : List Int) (q : Bool) (w : World)
    (hr0 : Kd.C (Kd.int .i64) w A0 l0.length l0) (hc0 : l0.length ≤ c0) (hr1 : Kd.C (Kd.int .i64) w A1 l1.length l1) (hc1 : l1.length ≤ c1) (hr2 : Kd.C (Kd.int .i64) w A2 l2.length l2) (hc2 : l2.length ≤ c2) (h : anyOrderF k l0 l1 l2 = some q) :
    Calls Tryd.prog 28 #[.agg #[.slice A0 l0.length c0, .slice A1 l1.length c1, .slice A2 l2.length c2]] w fun e w' => e = .returned (.bool q) ∧ Below w.heap.size w w' := by
  have eg := enters_of Tryd.func50 (by kernel_rfl) rfl
  unfold anyOrderF at h
  obtain ⟨r, hr, h⟩ := Option.bind_eq_some_iff.mp h
  split at h
  · rename_i hin
    have hq := Option.some.inj h
    have HQ := Aside0.mk hq
    have HIN := Aside0.mk hin
    clear h hq hin
    have HB1 := Aside0.mk (below_alloc (Below.refl w.heap.size w) (.cells #[.slice A0 l0.length c0, .slice A1 l1.length c1, .slice A2 l2.length c2] 25))
    have HBK := Aside0.mk (blk_new w (.cells #[.slice A0 l0.length c0, .slice A1 l1.length c1, .slice A2 l2.length c2] 25))
    have HC := Aside0.mk (impl_Machine_reached.calls k A0 c0 l0 A1 c1 l1 A2 c2 l2 0 r (w.alloc (.cells #[.slice A0 l0.length c0, .slice A1 l1.length c1, .slice A2 l2.length c2] 25)) (Kd.C_below hr0 HB1.out) hc0 (Kd.C_below hr1 HB1.out) hc1 (Kd.C_below hr2 HB1.out) hc2 hr)
    have HR0 := Aside0.mk hr0
    have HR1 := Aside0.mk hr1
    clear hr0 hr1 hr2 hr
    obtain ⟨p, hp⟩ : ∃ p, r.any (diff l0 l1) = p := ⟨_, rfl⟩
    have HF := Aside0.mk (fun W A c hB h0 h1 r0 r1 hx => ManI.ContainsFunc (diff l0 l1) 50 #[.pointer (some ⟨w.heap.size, 0, none⟩)] eg A c r W (anyOrder1 w.heap.size A0 A1 c0 c1 l0 l1 W hB h0 h1 r0 r1 r HIN.out) hx)
    rw [hp] at HF HQ
    clear hp
    go_enter Tryd.func28, Tryd.ntmps28
    go_wp2_with (first | (go_at_call 49; refine HC.out.mono ?_; rintro e w2 ⟨v0, rfl, ho, hb⟩; obtain ⟨Ao, co, rfl⟩ := Kd.R_slice ho; have HO := Aside0.mk (Kd.R_reads' ho).2.2; have HB2 := Aside0.mk (below_step HB1.out hb); have BK2 := Aside0.mk (blk_below HBK.out hb); clear hb ho) | (go_at_call 48; refine (HF.out _ _ _ (blk_lt BK2.out) ((blk_cell BK2.out 0).trans rfl) ((blk_cell BK2.out 1).trans rfl) (Kd.C_below HR0.out HB2.out) (Kd.C_below HR1.out HB2.out) HO.out).mono ?_; rintro e w3 ⟨rfl, hb3⟩))
    go_ret
    exact ⟨by rw [← HQ.out]; rfl, below_step HB2.out hb3⟩
  · cases h
end Go.Proofs.YthodcgkhianecaaDoor.Man
