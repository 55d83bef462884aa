/- A row of the call's own: how it stays while others are made, written, boxed; no condition but that they are apart. -/
import Derived.Test.YtiplbleghaoehaaManRows
namespace Go.Proofs.Ytiplbleghaoehaa.Man
open Go.RowKit Go.Proofs.Ytiplbleghaoehaa.PA Go.Proofs.YtiplbleghaoehaaW.PrintWords Go.Proofs.YtiplbleghaoehaaW.PrintLast Go.Proofs.YtiplbleghaoehaaW.PrintMore
set_option linter.unusedVariables false
set_option linter.unusedSimpArgs false

/-- A row of the call's own. -/
def RW (w W : World) (v : Value) (l : List Int) : Prop := Kd.R (Kd.int .i64) 3 W w.heap.size (fun k => some k = v.ownBlock) v l
section
variable {w W W' : World} {v v0 v1 v2 u u0 u1 u2 : Value} {l l0 l1 l2 n n0 n1 n2 : List Int} {g k : Nat}
theorem RW.below (h : RW w W v l) (hb : Below W.heap.size W W') : RW w W' v l := Kd.R_step h (fun k _ hl => hb.block k hl)
theorem RW.kept (h : RW w W v l) {S : Nat → Prop} (hk : Kept W W' S) (ha : ∀ k, some k = v.ownBlock → ¬ S k) : RW w W' v l := Kd.R_step h (fun k hb hl => hk.2 k hl (ha k hb))
theorem RW.lt (h : RW w W v l) {k : Nat} (hk : some k = v.ownBlock) : k < W.heap.size := Kd.R_lt h k hk.symm
theorem RW.drew (h : RW w W v l) : RW w W.drew v l := Kd.R_step h (fun _ _ _ => rfl)
theorem RW.reads (h : RW w W v l) : ∃ A c, v = .slice A l.length c ∧ l.length ≤ c ∧ Kd.C (Kd.int .i64) W A l.length l := Kd.R_reads h
theorem RW.beside (h : RW w W v l) {b : Nat} (hb0 : b = W.heap.size) {w1 : World} (hb : Below W.heap.size W w1) (u0 u1 u2 : Value) : RW w (((w1.setCell ⟨b, 0, none⟩ u0).setCell ⟨b, 1, none⟩ u1).setCell ⟨b, 2, none⟩ u2) v l := by
  have hx : ∀ k, k < W.heap.size → (((w1.setCell ⟨b, 0, none⟩ u0).setCell ⟨b, 1, none⟩ u1).setCell ⟨b, 2, none⟩ u2).heap[k]? = w1.heap[k]? := fun k hk => by
    have hne : k ≠ b := by omega
    exact (Below.heap_setCell _ ⟨b, 2, none⟩ _ k hne).trans ((Below.heap_setCell _ ⟨b, 1, none⟩ _ k hne).trans (Below.heap_setCell _ ⟨b, 0, none⟩ _ k hne))
  exact Kd.R_step h (fun k _ hl => (hx k hl).trans (hb.block k hl))
/-- What a call hands back that makes a row. -/
def GivesR (w W : World) (n : List Int) (e : Ending) (w' : World) : Prop := ∃ u : Value, e = .returned u ∧ RW w w' u n ∧ (∀ k, some k = u.ownBlock → W.heap.size ≤ k) ∧ Below W.heap.size W w'
end
end Go.Proofs.Ytiplbleghaoehaa.Man
