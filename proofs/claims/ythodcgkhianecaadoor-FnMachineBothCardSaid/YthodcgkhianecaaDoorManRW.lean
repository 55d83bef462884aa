/- A row of the call's own: how it stays while others are made, written, boxed; no condition but that they are apart. -/
import Derived.Test.YthodcgkhianecaaDoorManRows
namespace Go.Proofs.YthodcgkhianecaaDoor.Man
open Go.RowKit Go.Proofs.YthodcgkhianecaaDoor.PA Go.Proofs.YthodcgkhianecaaDoorW.PrintWords Go.Proofs.YthodcgkhianecaaDoorW.PrintLast Go.Proofs.YthodcgkhianecaaDoorW.PrintMore
set_option linter.unusedVariables false
set_option linter.unusedSimpArgs false

/-- A row of the call's own. -/
def RW (w W : World) (v : Value) (l : List Int) : Prop := Kd.R (Kd.int .i64) 3 W w.heap.size (fun k => some k = v.ownBlock) v l
section
variable {w W W' : World} {v v0 v1 v2 u u0 u1 u2 : Value} {l l0 l1 l2 n n0 n1 n2 : List Int} {g k : Nat}
theorem RW.below (h : RW w W v l) (hb : Below W.heap.size W W') : RW w W' v l := Kd.R_step h (fun k _ hl => hb.block k hl)
theorem RW.kept (h : RW w W v l) {S : Nat → Prop} (hk : Kept W W' S) (ha : ∀ k, some k = v.ownBlock → ¬ S k) : RW w W' v l := Kd.R_step h (fun k hb hl => hk.2 k hl (ha k hb))
theorem RW.lt (h : RW w W v l) {k : Nat} (hk : some k = v.ownBlock) : k < W.heap.size := Kd.R_lt h k hk.symm
theorem RW.notbox (h : RW w W v l) {g t : Nat} {cs : Array Value} (hb : W.heap[g]? = some (.cells cs t (0, 0))) (ht : 3 ≠ t) : ¬ some g = v.ownBlock := Kd.R_ne h hb ht
theorem RW.drew (h : RW w W v l) : RW w W.drew v l := Kd.R_step h (fun _ _ _ => rfl)
theorem RW.reads (h : RW w W v l) : ∃ A c, v = .slice A l.length c ∧ l.length ≤ c ∧ Kd.C (Kd.int .i64) W A l.length l := Kd.R_reads h
/-- What a call hands back that makes a row. -/
def GivesR (w W : World) (n : List Int) (e : Ending) (w' : World) : Prop := ∃ u : Value, e = .returned u ∧ RW w w' u n ∧ (∀ k, some k = u.ownBlock → W.heap.size ≤ k) ∧ Below W.heap.size W w'
end
end Go.Proofs.YthodcgkhianecaaDoor.Man
