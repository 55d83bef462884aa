/- Facts carried over draws and allocations, by a class. -/
import Derived.Test.YtmkfmbjemdbigaaPAx0
namespace Go.Proofs.Ytmkfmbjemdbigaa.PA
open Go.RowKit Go.Proofs.YtmkfmbjemdbigaaW.PrintWords Go.Proofs.YtmkfmbjemdbigaaW.PrintLast Go.Proofs.YtmkfmbjemdbigaaW.PrintMore
/-- Nothing that was is changed. -/
class Up (W W' : World) : Prop where
  b : Below W.heap.size W W'
instance Up.refl (W : World) : Up W W := ⟨Below.refl _ _⟩
instance Up.drew (W W' : World) [u : Up W W'] : Up W W'.drew := ⟨below_drew1 u.b⟩
instance Up.drewN (W W' : World) (n : Nat) [u : Up W W'] : Up W (W'.drewN n) := ⟨pw_below_drewN u.b n⟩
instance Up.alloc (W W' : World) (ob : Obj) [u : Up W W'] : Up W (W'.alloc ob) := ⟨below_alloc u.b ob⟩
theorem blkU {W W' : World} {g : Nat} {o : Obj} [u : Up W W'] (h : W.heap[g]? = some o) : W'.heap[g]? = some o := blk_below h u.b
theorem belU {w W W' : World} [u : Up W W'] (h : Below w.heap.size w W) : Below w.heap.size w W' := below_step h u.b
section
variable {α : Type} {d : Kd α} {W W' : World} {e base : Nat} {ok : Nat → Prop} {v : Value} {xs : List α} {A : Option Addr} {n : Nat}
theorem rU [u : Up W W'] (h : d.R e W base ok v xs) : d.R e W' base ok v xs := Kd.R_below h u.b
theorem cU [u : Up W W'] (h : d.C W A n xs) : d.C W' A n xs := Kd.C_below h u.b
end
end Go.Proofs.Ytmkfmbjemdbigaa.PA
