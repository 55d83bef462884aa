/- Machines of the call's own: three rows, and the box that holds them; how they stay while others are made, written, boxed; no condition but that they are apart. -/
import Derived.Test.YthodcgkhianecaaDoorSemBase
import Derived.Test.YthodcgkhianecaaDoorPAx1
namespace Go.Proofs.YthodcgkhianecaaDoor.Man
open Go.RowKit Go.Proofs.YthodcgkhianecaaDoor.PA Go.Proofs.YthodcgkhianecaaDoorW.PrintWords Go.Proofs.YthodcgkhianecaaDoorW.PrintLast Go.Proofs.YthodcgkhianecaaDoorW.PrintMore
set_option linter.unusedVariables false
set_option linter.unusedSimpArgs false

/-- Three rows, apart. -/
structure OM (w W : World) (v0 v1 v2 : Value) (l0 l1 l2 : List Int) : Prop where
  r0 : Kd.R (Kd.int .i64) 3 W w.heap.size (fun k => some k = v0.ownBlock) v0 l0
  r1 : Kd.R (Kd.int .i64) 3 W w.heap.size (fun k => some k = v1.ownBlock) v1 l1
  r2 : Kd.R (Kd.int .i64) 3 W w.heap.size (fun k => some k = v2.ownBlock) v2 l2
  n01 : ∀ k, some k = v0.ownBlock → ¬ some k = v1.ownBlock
  n02 : ∀ k, some k = v0.ownBlock → ¬ some k = v2.ownBlock
  n12 : ∀ k, some k = v1.ownBlock → ¬ some k = v2.ownBlock
/-- The rows' blocks. -/
def Bl (v0 v1 v2 : Value) (k : Nat) : Prop := some k = v0.ownBlock ∨ some k = v1.ownBlock ∨ some k = v2.ownBlock

section
variable {w W W' : World} {v0 v1 v2 : Value} {l0 l1 l2 : List Int}
theorem OM.step (h : OM w W v0 v1 v2 l0 l1 l2) (hm : ∀ k, Bl v0 v1 v2 k → k < W.heap.size → W'.heap[k]? = W.heap[k]?) : OM w W' v0 v1 v2 l0 l1 l2 :=
  ⟨Kd.R_step h.r0 (fun k hk hl => hm k (Or.inl hk) hl), Kd.R_step h.r1 (fun k hk hl => hm k (Or.inr (Or.inl hk)) hl), Kd.R_step h.r2 (fun k hk hl => hm k (Or.inr (Or.inr hk)) hl), h.n01, h.n02, h.n12⟩
theorem OM.below (h : OM w W v0 v1 v2 l0 l1 l2) (hb : Below W.heap.size W W') : OM w W' v0 v1 v2 l0 l1 l2 := h.step (fun k _ hl => hb.block k hl)
theorem OM.kept (h : OM w W v0 v1 v2 l0 l1 l2) {S : Nat → Prop} (hk : Kept W W' S) (ha : ∀ k, Bl v0 v1 v2 k → ¬ S k) : OM w W' v0 v1 v2 l0 l1 l2 := h.step (fun k hb hl => hk.2 k hl (ha k hb))
theorem OM.lt (h : OM w W v0 v1 v2 l0 l1 l2) {k : Nat} (hk : Bl v0 v1 v2 k) : k < W.heap.size := by
  rcases hk with hk | hk | hk
  · exact Kd.R_lt h.r0 k hk.symm
  · exact Kd.R_lt h.r1 k hk.symm
  · exact Kd.R_lt h.r2 k hk.symm
theorem OM.notbox (h : OM w W v0 v1 v2 l0 l1 l2) {g t : Nat} {cs : Array Value} (hb : W.heap[g]? = some (.cells cs t (0, 0))) (ht : 3 ≠ t) : ¬ Bl v0 v1 v2 g := by
  rintro (hk | hk | hk)
  · exact Kd.R_ne h.r0 hb ht hk
  · exact Kd.R_ne h.r1 hb ht hk
  · exact Kd.R_ne h.r2 hb ht hk
/-- As a call hands them back. -/
theorem OM.made {Wc : World} (hw : w.heap.size ≤ Wc.heap.size)
    (h0 : Kd.R (Kd.int .i64) 3 W Wc.heap.size (fun k_ => some k_ ≠ (v1 : Value).ownBlock ∧ some k_ ≠ (v2 : Value).ownBlock) v0 l0) (h1 : Kd.R (Kd.int .i64) 3 W Wc.heap.size (fun k_ => some k_ ≠ (v0 : Value).ownBlock ∧ some k_ ≠ (v2 : Value).ownBlock) v1 l1)
    (h2 : Kd.R (Kd.int .i64) 3 W Wc.heap.size (fun k_ => some k_ ≠ (v0 : Value).ownBlock ∧ some k_ ≠ (v1 : Value).ownBlock) v2 l2) : OM w W v0 v1 v2 l0 l1 l2 ∧ ∀ k, Bl v0 v1 v2 k → Wc.heap.size ≤ k := by
  refine ⟨⟨Kd.R_lower (Kd.R_tight rfl h0) hw, Kd.R_lower (Kd.R_tight rfl h1) hw, Kd.R_lower (Kd.R_tight rfl h2) hw, fun k hk => (h0.1 k hk.symm).1, fun k hk => (h0.1 k hk.symm).2, fun k hk => (h1.1 k hk.symm).2⟩, ?_⟩
  rintro k (hk | hk | hk)
  · exact Kd.R_base h0 k hk.symm
  · exact Kd.R_base h1 k hk.symm
  · exact Kd.R_base h2 k hk.symm
/-- Read. -/
theorem OM.reads (h : OM w W v0 v1 v2 l0 l1 l2) : ∃ A0 c0 A1 c1 A2 c2, v0 = .slice A0 l0.length c0 ∧ v1 = .slice A1 l1.length c1 ∧ v2 = .slice A2 l2.length c2 ∧ l0.length ≤ c0 ∧ l1.length ≤ c1 ∧ l2.length ≤ c2 ∧
    Kd.C (Kd.int .i64) W A0 l0.length l0 ∧ Kd.C (Kd.int .i64) W A1 l1.length l1 ∧ Kd.C (Kd.int .i64) W A2 l2.length l2 := by
  obtain ⟨A0, c0, e0, q0, d0⟩ := Kd.R_reads h.r0
  obtain ⟨A1, c1, e1, q1, d1⟩ := Kd.R_reads h.r1
  obtain ⟨A2, c2, e2, q2, d2⟩ := Kd.R_reads h.r2
  exact ⟨A0, c0, A1, c1, A2, c2, e0, e1, e2, q0, q1, q2, d0, d1, d2⟩
end

/-- .. and their box. -/
structure Mx (w W : World) (g : Nat) (v0 v1 v2 : Value) (l0 l1 l2 : List Int) : Prop where
  om : OM w W v0 v1 v2 l0 l1 l2
  bx : W.heap[g]? = some (.cells #[v0, v1, v2] 25 (0, 0))

section
variable {w W W' : World} {g : Nat} {v0 v1 v2 : Value} {l0 l1 l2 : List Int}
theorem Mx.below (h : Mx w W g v0 v1 v2 l0 l1 l2) (hb : Below W.heap.size W W') : Mx w W' g v0 v1 v2 l0 l1 l2 := ⟨h.om.below hb, blk_below h.bx hb⟩
theorem Mx.kept (h : Mx w W g v0 v1 v2 l0 l1 l2) {S : Nat → Prop} (hk : Kept W W' S) (ha : ∀ k, Bl v0 v1 v2 k → ¬ S k) (hg : ¬ S g) : Mx w W' g v0 v1 v2 l0 l1 l2 := ⟨h.om.kept hk ha, (hk.2 g (blk_lt h.bx) hg).trans h.bx⟩
theorem Mx.drewN (h : Mx w W g v0 v1 v2 l0 l1 l2) (n : Nat) : Mx w (W.drewN n) g v0 v1 v2 l0 l1 l2 := ⟨h.om.step (fun _ _ _ => rfl), h.bx⟩
theorem Mx.drew (h : Mx w W g v0 v1 v2 l0 l1 l2) : Mx w W.drew g v0 v1 v2 l0 l1 l2 := ⟨h.om.step (fun _ _ _ => rfl), h.bx⟩
end
end Go.Proofs.YthodcgkhianecaaDoor.Man
