/- The machine side of functions of this seat, written by the session's program myprint.py: for each Go function a Lean function and the proof that the call answers just it. -/
import Derived.Test.YthodcgkhianecaaDoorManLawBMC
import Derived.Test.YthodcgkhianecaaDoorPAx0
namespace Go.Proofs.YthodcgkhianecaaDoor.PA
open Go.RowKit Go.Proofs.YthodcgkhianecaaDoorW.PrintWords Go.Proofs.YthodcgkhianecaaDoorW.PrintLast Go.Proofs.YthodcgkhianecaaDoorW.PrintMore
attribute [local go_sem] max2_int min2_int max_two min_two max_three min_three max_four min_four   -- for this text's walks alone
set_option linter.unusedVariables false
set_option linter.unusedSimpArgs false

/-! ### laws_FnMachineBoth: function 4 -/
def laws_FnMachineBoth.f (k : Nat) (l0 : List Int) (l1 : List Int) : Option (Bool):=if (∀ x ∈ l0,(Lit.int .u8 x).wf = true) ∧ (∀ x ∈ l1,(Lit.int .u8 x).wf = true) then some true else none
theorem laws_FnMachineBoth.mono : ∀ a0 a1 k,LeO (laws_FnMachineBoth.f k a0 a1) (laws_FnMachineBoth.f (k + 1) a0 a1):=fun _ _ _ => LeO.refl _
theorem laws_FnMachineBoth.calls (k : Nat) (A0 : Option Addr) (c0 : Nat) (l0 : List Int) (A1 : Option Addr) (c1 : Nat) (l1 : List Int) (r : Bool) (w : World) (hr0 : Kd.C (Kd.int .u8) w A0 l0.length l0) (hc0 : l0.length ≤ c0) (hr1 : Kd.C (Kd.int .u8) w A1 l1.length l1) (hc1 : l1.length ≤ c1) (h : laws_FnMachineBoth.f k l0 l1 = some r) :
  Calls Tryd.prog 4 #[.slice A0 l0.length c0,.slice A1 l1.length c1] w fun e w' => e = .returned (.bool r) ∧ Below w.heap.size w w':=by
 unfold laws_FnMachineBoth.f at h
 by_cases hw : (∀ x ∈ l0,(Lit.int .u8 x).wf = true) ∧ (∀ x ∈ l1,(Lit.int .u8 x).wf = true)
 ·
  rw [if_pos hw] at h
  obtain rfl:=Option.some.inj h
  exact Man.lawBM A0 c0 l0 A1 c1 l1 w hr0 hc0 hr1 hc1 (fun _ => Sem.bm_facts l0 l1 hw.1 hw.2)
 ·
  rw [if_neg hw] at h
  exact absurd h (by simp)

end Go.Proofs.YthodcgkhianecaaDoor.PA
