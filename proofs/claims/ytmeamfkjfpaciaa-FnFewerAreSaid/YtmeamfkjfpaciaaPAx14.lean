/- The machine side of functions of this seat, written by the session's program myprint.py: for each Go function a Lean function and the proof that the call answers just it. -/
import Derived.Test.YtmeamfkjfpaciaaManSplit
import Derived.Test.YtmeamfkjfpaciaaPAx0
namespace Go.Proofs.Ytmeamfkjfpaciaa.PA
open Go.RowKit Go.Proofs.YtmeamfkjfpaciaaW.PrintWords Go.Proofs.YtmeamfkjfpaciaaW.PrintLast Go.Proofs.YtmeamfkjfpaciaaW.PrintMore
attribute [local go_sem] max2_int min2_int max_two min_two max_three min_three max_four min_four   -- for this text's walks alone
set_option linter.unusedVariables false
set_option linter.unusedSimpArgs false

/-! ### impl_splitOf: function 26 -/
def impl_splitOf.f (l0 : List Int) : Option (List Int × List Int):=if 21 ≤ l0.length then some (Man.triRow (Man.upP l0),Man.triRow (Man.dnP l0)) else none
theorem impl_splitOf.calls (A0 : Option Addr) (c0 : Nat) (l0 : List Int) (r1 : List Int) (r2 : List Int) (w : World) (hr0 : Kd.C (Kd.int .i64) w A0 l0.length l0) (hc0 : l0.length ≤ c0) (h : impl_splitOf.f l0 = some (r1,r2)) :
  Calls Try.prog 26 #[.slice A0 l0.length c0] w fun e w' => ∃ v0_ v1_ : Value,e = .returned (.tuple #[v0_,v1_]) ∧ Kd.R (Kd.int .i64) 3 w' w.heap.size (fun k_ => some k_ ≠ (v1_ : Value).ownBlock) v0_ r1 ∧ Kd.R (Kd.int .i64) 3 w' w.heap.size (fun k_ => some k_ ≠ (v0_ : Value).ownBlock) v1_ r2 ∧ Below w.heap.size w w':=by
 unfold impl_splitOf.f at h
 by_cases hl : 21 ≤ l0.length
 ·
  rw [if_pos hl] at h
  injection h with h
  injection h with h1 h2
  subst h1;subst h2
  exact Man.splitOf A0 c0 l0 w hr0 hl
 ·
  rw [if_neg hl] at h
  cases h

end Go.Proofs.Ytmeamfkjfpaciaa.PA
