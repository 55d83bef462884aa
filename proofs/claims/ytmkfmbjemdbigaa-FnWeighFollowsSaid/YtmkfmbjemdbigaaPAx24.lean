/- The machine side of functions of this seat, written by the session's program myprint.py: for each Go function a Lean function and the proof that the call answers just it. -/
import Derived.Test.YtmkfmbjemdbigaaPAx0
namespace Go.Proofs.Ytmkfmbjemdbigaa.PA
open Go.RowKit Go.Proofs.YtmkfmbjemdbigaaW.PrintWords Go.Proofs.YtmkfmbjemdbigaaW.PrintLast Go.Proofs.YtmkfmbjemdbigaaW.PrintMore
attribute [local go_sem] max2_int min2_int max_two min_two max_three min_three max_four min_four   -- for this text's walks alone
set_option linter.unusedVariables false
set_option linter.unusedSimpArgs false

/-! ### spec_l5Other: function 37 -/
def spec_l5Other.f (a0 : Int) : Option (Int):=if (Int.tmod a0 2) = 0 then (some (wrap64 (a0 + 1))) else (some (wrap64 (a0 - 1)))
set_option maxHeartbeats 8000000 in
set_option maxRecDepth 100000 in
theorem spec_l5Other.calls (a0 : Int) (r : Int) (w : World) (h : spec_l5Other.f a0 = some r) :
  Calls Try.prog 37 #[.int .i64 a0] w fun e w' => e = .returned (.int .i64 r) ∧ Drawn0 w w':=by
 have H : (if (Int.tmod a0 2) = 0 then (some (wrap64 (a0 + 1))) else (some (wrap64 (a0 - 1)))) = some r:=h;clear h;by_cases c2 : (Int.tmod a0 2) = 0
 ·
  rw [if_pos c2] at H;have c2b0 : ((Int.tmod a0 2) == 0) = true:=beq_iff_eq.mpr c2;have c2b1 : ((Int.tmod a0 2) != 0) = false:=bne_eq_false_iff_eq.mpr c2;clear c2;obtain rfl:=Option.some.inj H;go_enter Try.func37,Try.ntmps37;go_wp2;go_ret;exact ⟨by rfl,by repeat (exact Drawn0.refl _)⟩
 ·
  rw [if_neg c2] at H;have c2b0 : ((Int.tmod a0 2) == 0) = false:=beq_eq_false_iff_ne.mpr c2;have c2b1 : ((Int.tmod a0 2) != 0) = true:=bne_iff_ne.mpr c2;obtain rfl:=Option.some.inj H;go_enter Try.func37,Try.ntmps37;go_wp2;go_ret;exact ⟨by rfl,by repeat (exact Drawn0.refl _)⟩

end Go.Proofs.Ytmkfmbjemdbigaa.PA
