/- The machine side of functions of this seat, written by the session's program myprint.py: for each Go function a Lean function and the proof that the call answers just it. -/
import Derived.Test.YthodcgkhianecaaDoorManCount
import Derived.Test.YthodcgkhianecaaDoorPAx0
namespace Go.Proofs.YthodcgkhianecaaDoor.PA
open Go.RowKit Go.Proofs.YthodcgkhianecaaDoorW.PrintWords Go.Proofs.YthodcgkhianecaaDoorW.PrintLast Go.Proofs.YthodcgkhianecaaDoorW.PrintMore
attribute [local go_sem] max2_int min2_int max_two min_two max_three min_three max_four min_four   -- for this text's walks alone
set_option linter.unusedVariables false
set_option linter.unusedSimpArgs false

/-! ### spec_l4Count: function 37 -/
def spec_l4Count.f (k : Nat) (a0 : Int) (a1 : Bool) (l2 : List Int) : Option (List Int × List Int × List Int):=Man.countF k a0 a1 l2
theorem spec_l4Count.mono : ∀ a0 a1 l2 k,LeO (spec_l4Count.f k a0 a1 l2) (spec_l4Count.f (k + 1) a0 a1 l2):=Man.count_mono
theorem spec_l4Count.calls (k : Nat) (a0 : Int) (a1 : Bool) (A2 : Option Addr) (c2 : Nat) (l2 : List Int) (r0 r1 r2 : List Int) (w : World) (base : Nat) (ok : Nat → Prop) (hr : Kd.R (Kd.int .i64) 3 w base ok (.slice A2 l2.length c2) l2) (h : spec_l4Count.f k a0 a1 l2 = some (r0,r1,r2)) :
  Calls Tryd.prog 37 #[.int .i64 a0,.bool a1,.slice A2 l2.length c2] w fun e w' => ∃ v0_ v1_ v2_ : Value,e = .returned (.agg #[v0_,v1_,v2_]) ∧ Kd.R (Kd.int .i64) 3 w' w.heap.size (fun k_ => some k_ ≠ (v1_ : Value).ownBlock ∧ some k_ ≠ (v2_ : Value).ownBlock) v0_ r0 ∧ Kd.R (Kd.int .i64) 3 w' w.heap.size (fun k_ => some k_ ≠ (v0_ : Value).ownBlock ∧ some k_ ≠ (v2_ : Value).ownBlock) v1_ r1 ∧ Kd.R (Kd.int .i64) 3 w' base (fun k_ => some k_ ≠ (v0_ : Value).ownBlock ∧ some k_ ≠ (v1_ : Value).ownBlock) v2_ r2 ∧ Below w.heap.size w w' :=
 Man.count_calls k a0 a1 A2 c2 l2 r0 r1 r2 w base ok hr h

end Go.Proofs.YthodcgkhianecaaDoor.PA
