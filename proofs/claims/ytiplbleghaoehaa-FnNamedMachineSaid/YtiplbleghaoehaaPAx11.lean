/- The machine side of functions of this seat, written by the session's program myprint.py: for each Go function a Lean function and the proof that the call answers just it. -/
import Derived.Test.YtiplbleghaoehaaPAx0
import Derived.Test.YtiplbleghaoehaaPAx10
namespace Go.Proofs.Ytiplbleghaoehaa.PA
open Go.RowKit Go.Proofs.YtiplbleghaoehaaW.PrintWords Go.Proofs.YtiplbleghaoehaaW.PrintLast Go.Proofs.YtiplbleghaoehaaW.PrintMore
attribute [local go_sem] max2_int min2_int max_two min_two max_three min_three max_four min_four   -- for this text's walks alone
set_option linter.unusedVariables false
set_option linter.unusedSimpArgs false

/-! ### laws_alive: function 9 -/
def laws_alive.f  : Option (Bool):=(impl_PlaceOf.f 0 0).bind fun t309 => (if t309 = 0 then ((impl_PlaceOf.f 0 1).bind fun t310 => (some (t310 == (-1)))) else (some false))
set_option maxHeartbeats 8000000 in
set_option maxRecDepth 100000 in
theorem laws_alive.calls  (r : Bool) (w : World) (h : laws_alive.f  = some r) :
  Calls Try.prog 9 #[] w fun e w' => e = .returned (.bool r) ∧ Drawn0 w w':=by
 have H : ((impl_PlaceOf.f 0 0).bind fun t309 => (if t309 = 0 then ((impl_PlaceOf.f 0 1).bind fun t310 => (some (t310 == (-1)))) else (some false))) = some r:=h;clear h
 replace H:=Option.bind_eq_some_iff.mp H
 obtain ⟨t309,A10,H⟩:=H
 replace H : (if t309 = 0 then ((impl_PlaceOf.f 0 1).bind fun t310 => (some (t310 == (-1)))) else (some false)) = some r:=H
 have A1:=Aside0.mk A10;clear A10
 by_cases c2 : t309 = 0
 ·
  rw [if_pos c2] at H
  have c2b0 : (t309 == 0) = true:=beq_iff_eq.mpr c2
  have c2b1 : (t309 != 0) = false:=bne_eq_false_iff_eq.mpr c2;clear c2
  replace H:=Option.bind_eq_some_iff.mp H
  obtain ⟨t310,A30,H⟩:=H
  replace H : (some (t310 == (-1))) = some r:=H
  have A3:=Aside0.mk A30;clear A30
  obtain rfl:=Option.some.inj H
  go_enter Try.func9,Try.ntmps9
  go_wp2_with (first|((with_reducible refine gate_callee (f:=24) rfl ?_);refine goesL_ (some 1) rfl rfl Try.func24 (by kernel_rfl) rfl #[.int .i64 0,.int .i64 0] rfl (by (try simp only [List.map_toArray,List.map_cons,List.map_nil]);first|done|rfl|(simp only [List.length_drop,List.length_take];rfl)) ?_;(with_reducible refine (impl_PlaceOf.calls 0 0 t309 _ A1.out).mono ?_);rintro e w' ⟨rfl,⟨nd,rfl⟩⟩;refine ⟨_,rfl,?_⟩)|(go_at_call 24;(with_reducible refine (impl_PlaceOf.calls 0 1 t310 _ A3.out).mono ?_);rintro e w' ⟨rfl,⟨nd,rfl⟩⟩))
  go_ret
  exact ⟨by first|rfl|(simp;done)|(simp [*];done),by repeat (first|exact Drawn0.refl _|apply Drawn0.step)⟩
 ·
  rw [if_neg c2] at H
  have c2b0 : (t309 == 0) = false:=beq_eq_false_iff_ne.mpr c2
  have c2b1 : (t309 != 0) = true:=bne_iff_ne.mpr c2
  obtain rfl:=Option.some.inj H
  go_enter Try.func9,Try.ntmps9
  go_wp2_with (first|((with_reducible refine gate_callee (f:=24) rfl ?_);refine goesL_ (some 1) rfl rfl Try.func24 (by kernel_rfl) rfl #[.int .i64 0,.int .i64 0] rfl (by (try simp only [List.map_toArray,List.map_cons,List.map_nil]);first|done|rfl|(simp only [List.length_drop,List.length_take];rfl)) ?_;(with_reducible refine (impl_PlaceOf.calls 0 0 t309 _ A1.out).mono ?_);rintro e w' ⟨rfl,⟨nd,rfl⟩⟩;refine ⟨_,rfl,?_⟩))
  go_ret
  exact ⟨by first|rfl|(simp;done)|(simp [*];done),by repeat (first|exact Drawn0.refl _|apply Drawn0.step)⟩

end Go.Proofs.Ytiplbleghaoehaa.PA
