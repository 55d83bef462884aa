/- The machine side of functions of this seat, written by the session's program myprint.py: for each Go function a Lean function and the proof that the call answers just it. -/
import Derived.Test.YtmkfmbjemdbigaaManL6F
import Derived.Test.YtmkfmbjemdbigaaPAx0
namespace Go.Proofs.Ytmkfmbjemdbigaa.PA
open Go.RowKit Go.Proofs.YtmkfmbjemdbigaaW.PrintWords Go.Proofs.YtmkfmbjemdbigaaW.PrintLast Go.Proofs.YtmkfmbjemdbigaaW.PrintMore
attribute [local go_sem] max2_int min2_int max_two min_two max_three min_three max_four min_four   -- for this text's walks alone
set_option linter.unusedVariables false
set_option linter.unusedSimpArgs false

/-! ### spec_l6Minor: function 62 -/
def spec_l6Minor.f (l0 : List Int) (l1 : List Int) (l2 : List Int) : Option (List Int):=Man.minF l0 l1 l2
theorem spec_l6Minor.calls (A0 : Option Addr) (c0 : Nat) (l0 : List Int) (A1 : Option Addr) (c1 : Nat) (l1 : List Int) (A2 : Option Addr) (c2 : Nat) (l2 : List Int) (r : List Int) (w : World) (hr0 : Kd.C (Kd.int .i64) w A0 l0.length l0) (hc0 : l0.length ≤ c0) (hr1 : Kd.C (Kd.int .i64) w A1 l1.length l1) (hc1 : l1.length ≤ c1) (hr2 : Kd.C (Kd.int .i64) w A2 l2.length l2) (hc2 : l2.length ≤ c2) (h : spec_l6Minor.f l0 l1 l2 = some r) :
  Calls Try.prog 62 #[.slice A0 l0.length c0,.slice A1 l1.length c1,.slice A2 l2.length c2] w fun e w' => ∃ v0_ : Value,e = .returned (v0_) ∧ Kd.R (Kd.int .i64) 3 w' w.heap.size (fun _ => True) v0_ r ∧ Below w.heap.size w w' :=
 Man.minF_calls w A0 A1 A2 c0 c1 c2 l0 l1 l2 r hr0 hr1 hr2 h

end Go.Proofs.Ytmkfmbjemdbigaa.PA
