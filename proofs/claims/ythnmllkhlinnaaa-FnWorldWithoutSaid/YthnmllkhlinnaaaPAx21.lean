/- The machine side of functions of this seat, written by the session's program myprint.py: for each Go function a Lean function and the proof that the call answers just it. -/
import Derived.Test.YthnmllkhlinnaaaManWorld
import Derived.Test.YthnmllkhlinnaaaPAx0
namespace Go.Proofs.Ythnmllkhlinnaaa.PA
open Go.RowKit Go.Proofs.YthnmllkhlinnaaaW.PrintWords Go.Proofs.YthnmllkhlinnaaaW.PrintLast Go.Proofs.YthnmllkhlinnaaaW.PrintMore
attribute [local go_sem] max2_int min2_int max_two min_two max_three min_three max_four min_four   -- for this text's walks alone
set_option linter.unusedVariables false
set_option linter.unusedSimpArgs false

/-! ### impl_WorldWithout: function 17 -/
def impl_WorldWithout.f (a0 : Int) (l1 : List (S29)) (a2_0 : Int) (a2_1 : Int) (a2_2 : Int) : Option (Int × Bool) := some (Man.worldB a0 l1 ⟨a2_0, a2_1, a2_2⟩)
theorem impl_WorldWithout.calls (a0 : Int) (A1 : Option Addr) (c1 : Nat) (l1 : List (S29)) (a2_0 : Int) (a2_1 : Int) (a2_2 : Int) (r1 : Int) (r2 : Bool) (w : World) (hr1 : Kd.C k29 w A1 l1.length l1) (hc1 : l1.length ≤ c1) (h : impl_WorldWithout.f a0 l1 a2_0 a2_1 a2_2 = some (r1, r2)) :
    Calls Try.prog 17 #[.int .i64 a0, .slice A1 l1.length c1, .agg #[.int .i64 a2_0, .int .i64 a2_1, .int .i64 a2_2]] w fun e w' => e = .returned (.tuple #[.int .i64 r1, .bool r2]) ∧ Below w.heap.size w w' := by
  have e := Option.some.inj h
  have e1 : (Man.worldB a0 l1 ⟨a2_0, a2_1, a2_2⟩).1 = r1 := by rw [e]
  have e2 : (Man.worldB a0 l1 ⟨a2_0, a2_1, a2_2⟩).2 = r2 := by rw [e]
  rw [← e1, ← e2]
  exact Man.WorldWithout a0 A1 c1 l1 ⟨a2_0, a2_1, a2_2⟩ w hr1

end Go.Proofs.Ythnmllkhlinnaaa.PA
