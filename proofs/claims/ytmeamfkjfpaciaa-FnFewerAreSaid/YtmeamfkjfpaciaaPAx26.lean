/- The machine side of functions of this seat, written by the session's program myprint.py: for each Go function a Lean function and the proof that the call answers just it. -/
import Derived.Test.YtmeamfkjfpaciaaManMore
import Derived.Test.YtmeamfkjfpaciaaPAx0
namespace Go.Proofs.Ytmeamfkjfpaciaa.PA
open Go.RowKit Go.Proofs.YtmeamfkjfpaciaaW.PrintWords Go.Proofs.YtmeamfkjfpaciaaW.PrintLast Go.Proofs.YtmeamfkjfpaciaaW.PrintMore
attribute [local go_sem] max2_int min2_int max_two min_two max_three min_three max_four min_four   -- for this text's walks alone
set_option linter.unusedVariables false
set_option linter.unusedSimpArgs false

/-! ### impl_fewerAre: function 35 -/
def impl_fewerAre.f (l0 : List Int) : Option (Bool):=if 21 ≤ l0.length then some (Man.stayB l0 (Man.faP l0)) else none
theorem impl_fewerAre.calls (A0 : Option Addr) (c0 : Nat) (l0 : List Int) (r : Bool) (w : World) (hr0 : Kd.C (Kd.int .i64) w A0 l0.length l0) (hc0 : l0.length ≤ c0) (h : impl_fewerAre.f l0 = some r) :
  Calls Try.prog 35 #[.slice A0 l0.length c0] w fun e w' => e = .returned (.bool r) ∧ Below w.heap.size w w':=by
 unfold impl_fewerAre.f at h
 by_cases hl : 21 ≤ l0.length
 ·
  rw [if_pos hl] at h
  obtain rfl:=Option.some.inj h
  exact Man.fewerAre A0 c0 l0 w hr0 hl
 ·
  rw [if_neg hl] at h
  cases h

end Go.Proofs.Ytmeamfkjfpaciaa.PA
