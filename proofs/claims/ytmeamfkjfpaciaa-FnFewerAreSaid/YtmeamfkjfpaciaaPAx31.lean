/- The machine side of functions of this seat, written by the session's program myprint.py: for each Go function a Lean function and the proof that the call answers just it. -/
import Derived.Test.YtmeamfkjfpaciaaManNTriE
import Derived.Test.YtmeamfkjfpaciaaPAx0
namespace Go.Proofs.Ytmeamfkjfpaciaa.PA
open Go.RowKit Go.Proofs.YtmeamfkjfpaciaaW.PrintWords Go.Proofs.YtmeamfkjfpaciaaW.PrintLast Go.Proofs.YtmeamfkjfpaciaaW.PrintMore
attribute [local go_sem] max2_int min2_int max_two min_two max_three min_three max_four min_four   -- for this text's walks alone
set_option linter.unusedVariables false
set_option linter.unusedSimpArgs false

/-! ### impl_namedTriangle: function 41 -/
def impl_namedTriangle.f (a0 : ByteArray) : Option (List Int × Bool):=if a0.toList = ([101,118,101,114,121] : List UInt8) then some (Man.triRow Man.pE,true) else none
theorem impl_namedTriangle.calls (a0 : ByteArray) (r1 : List Int) (r2 : Bool) (w : World) (h : impl_namedTriangle.f a0 = some (r1,r2)) :
  Calls Try.prog 41 #[.string a0] w fun e w' => ∃ v0_ : Value,e = .returned (.tuple #[v0_,.bool r2]) ∧ Kd.R (Kd.int .i64) 3 w' w.heap.size (fun _ => True) v0_ r1 ∧ Below w.heap.size w w':=by
 unfold impl_namedTriangle.f at h
 by_cases hl : a0.toList = ([101,118,101,114,121] : List UInt8)
 ·
  rw [if_pos hl] at h
  injection h with h
  injection h with h1 h2
  subst h1;subst h2
  exact Man.ntri a0 w hl
 ·
  rw [if_neg hl] at h
  cases h

end Go.Proofs.Ytmeamfkjfpaciaa.PA
