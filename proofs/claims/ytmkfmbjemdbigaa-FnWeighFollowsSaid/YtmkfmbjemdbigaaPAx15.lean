/- The machine side of functions of this seat, written by the session's program myprint.py: for each Go function a Lean function and the proof that the call answers just it. -/
import Derived.Test.YtmkfmbjemdbigaaManCntC
import Derived.Test.YtmkfmbjemdbigaaPAx0
namespace Go.Proofs.Ytmkfmbjemdbigaa.PA
open Go.RowKit Go.Proofs.YtmkfmbjemdbigaaW.PrintWords Go.Proofs.YtmkfmbjemdbigaaW.PrintLast Go.Proofs.YtmkfmbjemdbigaaW.PrintMore
attribute [local go_sem] max2_int min2_int max_two min_two max_three min_three max_four min_four   -- for this text's walks alone
set_option linter.unusedVariables false
set_option linter.unusedSimpArgs false

/-! ### impl_countsFor: function 33 -/
def impl_countsFor.f (l0 : List S25) : Option (List Int × Bool):=ManR.cntF l0
theorem impl_countsFor.calls (A0 : Option Addr) (c0 : Nat) (l0 : List S25) (r1 : List Int) (r2 : Bool) (w : World) (hr0 : Kd.C k25 w A0 l0.length l0) (hc0 : l0.length ≤ c0) (h : impl_countsFor.f l0 = some (r1,r2)) :
  Calls Try.prog 33 #[.slice A0 l0.length c0] w fun e w' => ∃ v0_ : Value,e = .returned (.tuple #[v0_,.bool r2]) ∧ Kd.R (Kd.int .i64) 3 w' w.heap.size (fun _ => True) v0_ r1 ∧ Below w.heap.size w w' :=
 ManR.countsFor_calls A0 c0 l0 r1 r2 w hr0 h

end Go.Proofs.Ytmkfmbjemdbigaa.PA
