/- The machine side of functions of this seat, written by the session's program myprint.py: for each Go function a Lean function and the proof that the call answers just it. -/
import Derived.Test.YtiplbleghaoehaaManLawNamC
import Derived.Test.YtiplbleghaoehaaPAx0
namespace Go.Proofs.Ytiplbleghaoehaa.PA
open Go.RowKit Go.Proofs.YtiplbleghaoehaaW.PrintWords Go.Proofs.YtiplbleghaoehaaW.PrintLast Go.Proofs.YtiplbleghaoehaaW.PrintMore
attribute [local go_sem] max2_int min2_int max_two min_two max_three min_three max_four min_four   -- for this text's walks alone
set_option linter.unusedVariables false
set_option linter.unusedSimpArgs false

/-! ### laws_FnNamedMachine: function 3 -/
def laws_FnNamedMachine.f (k : Nat) (l0 : List Int) : Option (Bool):=if ∀ x ∈ l0,(Lit.int .u8 x).wf = true then some true else none
theorem laws_FnNamedMachine.mono : ∀ a0 k,LeO (laws_FnNamedMachine.f k a0) (laws_FnNamedMachine.f (k + 1) a0):=fun _ _ => LeO.refl _
theorem laws_FnNamedMachine.calls (k : Nat) (A0 : Option Addr) (c0 : Nat) (l0 : List Int) (r : Bool) (w : World) (hr0 : Kd.C (Kd.int .u8) w A0 l0.length l0) (hc0 : l0.length ≤ c0) (h : laws_FnNamedMachine.f k l0 = some r) :
  Calls Try.prog 3 #[.slice A0 l0.length c0] w fun e w' => e = .returned (.bool r) ∧ Below w.heap.size w w':=by
 unfold laws_FnNamedMachine.f at h
 by_cases hw : ∀ x ∈ l0,(Lit.int .u8 x).wf = true
 ·
  rw [if_pos hw] at h
  obtain rfl:=Option.some.inj h
  exact Man.lawNam A0 c0 l0 w hr0 hc0 (Or.inr (Sem.nam_facts l0 hw))
 ·
  rw [if_neg hw] at h
  exact absurd h (by simp)

end Go.Proofs.Ytiplbleghaoehaa.PA
