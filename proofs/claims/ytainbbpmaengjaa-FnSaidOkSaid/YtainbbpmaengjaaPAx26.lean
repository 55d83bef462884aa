/- The machine side of functions of this seat, written by the session's program myprint.py: for each Go function a Lean function and the proof that the call answers just it. -/
import Derived.Test.YtainbbpmaengjaaManSaid
import Derived.Test.YtainbbpmaengjaaPAx0
namespace Go.Proofs.Ytainbbpmaengjaa.PA
open Go.RowKit Go.Proofs.YtainbbpmaengjaaW.PrintWords Go.Proofs.YtainbbpmaengjaaW.PrintLast Go.Proofs.YtainbbpmaengjaaW.PrintMore
attribute [local go_sem] max2_int min2_int max_two min_two max_three min_three max_four min_four   -- for this text's walks alone
set_option linter.unusedVariables false
set_option linter.unusedSimpArgs false

/-! ### impl_areSaid: function 59 -/
def impl_areSaid.f (a0 : Int) (l1 : List (S25)) : Option (Bool) := some (Man.saidB a0 l1)
theorem impl_areSaid.calls (a0 : Int) (A1 : Option Addr) (c1 : Nat) (l1 : List (S25)) (r : Bool) (w : World) (hr1 : Kd.C k25 w A1 l1.length l1) (hc1 : l1.length ≤ c1) (h : impl_areSaid.f a0 l1 = some r) :
    Calls Try.prog 59 #[.int .i64 a0, .slice A1 l1.length c1] w fun e w' => e = .returned (.bool r) ∧ Below w.heap.size w w' := by
  obtain rfl := Option.some.inj h
  exact Man.areSaid a0 A1 c1 l1 w hr1

end Go.Proofs.Ytainbbpmaengjaa.PA
