/- The machine side of functions of this seat, written by the session's program myprint.py: for each Go function a Lean function and the proof that the call answers just it. -/
import Derived.Test.YtmbninbecclbiaaManLawA
import Derived.Test.YtmbninbecclbiaaPAx0
namespace Go.Proofs.Ytmbninbecclbiaa.PA
open Go.RowKit Go.Proofs.YtmbninbecclbiaaW.PrintWords Go.Proofs.YtmbninbecclbiaaW.PrintLast Go.Proofs.YtmbninbecclbiaaW.PrintMore
attribute [local go_sem] max2_int min2_int max_two min_two max_three min_three max_four min_four   -- for this text's walks alone
set_option linter.unusedVariables false
set_option linter.unusedSimpArgs false

/-! ### laws_FnExactCountsFor: function 7 -/
def laws_FnExactCountsFor.f (k : Nat) (l0 : List S24) : Option (Bool):=if l0.length ≤ 9223372036854775807 then some true else none
theorem laws_FnExactCountsFor.mono : ∀ a0 k,LeO (laws_FnExactCountsFor.f k a0) (laws_FnExactCountsFor.f (k + 1) a0):=fun _ _ => LeO.refl _
theorem laws_FnExactCountsFor.calls (k : Nat) (A0 : Option Addr) (c0 : Nat) (l0 : List S24) (r : Bool) (w : World) (hr0 : Kd.C k24 w A0 l0.length l0) (hc0 : l0.length ≤ c0) (h : laws_FnExactCountsFor.f k l0 = some r) :
  Calls Try.prog 7 #[.slice A0 l0.length c0] w fun e w' => e = .returned (.bool r) ∧ Below w.heap.size w w':=by
 unfold laws_FnExactCountsFor.f at h
 by_cases hw : l0.length ≤ 9223372036854775807
 ·
  rw [if_pos hw] at h
  obtain rfl:=Option.some.inj h
  exact ManR.lawCnt A0 c0 l0 w hr0 hc0 hw (ManR.cnt_facts l0)
 ·
  rw [if_neg hw] at h
  exact absurd h (by simp)

end Go.Proofs.Ytmbninbecclbiaa.PA
