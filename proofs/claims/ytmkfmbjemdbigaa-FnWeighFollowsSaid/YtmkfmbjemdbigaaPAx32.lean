/- The machine side of functions of this seat, written by the session's program myprint.py: for each Go function a Lean function and the proof that the call answers just it. -/
import Derived.Test.YtmkfmbjemdbigaaPAx0
namespace Go.Proofs.Ytmkfmbjemdbigaa.PA
open Go.RowKit Go.Proofs.YtmkfmbjemdbigaaW.PrintWords Go.Proofs.YtmkfmbjemdbigaaW.PrintLast Go.Proofs.YtmkfmbjemdbigaaW.PrintMore
attribute [local go_sem] max2_int min2_int max_two min_two max_three min_three max_four min_four   -- for this text's walks alone
set_option linter.unusedVariables false
set_option linter.unusedSimpArgs false

/-! ### impl_placeOf: function 44 -/
def impl_placeOf.f (a0 : Int) (a1 : Int) : Option (Int):=some (wrap64 ((wrap64 (Int.tdiv (wrap64 (a0 * (wrap64 (a0 + 1)))) 2)) + a1))
set_option maxHeartbeats 8000000 in
set_option maxRecDepth 100000 in
theorem impl_placeOf.calls (a0 : Int) (a1 : Int) (r : Int) (w : World) (h : impl_placeOf.f a0 a1 = some r) :
  Calls Try.prog 44 #[.int .i64 a0,.int .i64 a1] w fun e w' => e = .returned (.int .i64 r) ∧ Drawn0 w w':=by
 have H : (some (wrap64 ((wrap64 (Int.tdiv (wrap64 (a0 * (wrap64 (a0 + 1)))) 2)) + a1))) = some r:=h;clear h;obtain rfl:=Option.some.inj H;go_enter Try.func44,Try.ntmps44;go_wp2;go_ret;exact ⟨by rfl,by repeat (exact Drawn0.refl _)⟩

/-! ### impl_PlaceOf: function 29 -/
def impl_PlaceOf.f (a0 : Int) (a1 : Int) : Option (Int):=if a0 < 0 then (some (-1)) else (if a0 > 5 then (some (-1)) else (if a1 < 0 then (some (-1)) else (if a1 > a0 then (some (-1)) else ((impl_placeOf.f a0 a1).bind fun t422 => (some t422)))))
set_option maxHeartbeats 8000000 in
set_option maxRecDepth 100000 in
theorem impl_PlaceOf.calls (a0 : Int) (a1 : Int) (r : Int) (w : World) (h : impl_PlaceOf.f a0 a1 = some r) :
  Calls Try.prog 29 #[.int .i64 a0,.int .i64 a1] w fun e w' => e = .returned (.int .i64 r) ∧ Drawn0 w w':=by
 have H : (if a0 < 0 then (some (-1)) else (if a0 > 5 then (some (-1)) else (if a1 < 0 then (some (-1)) else (if a1 > a0 then (some (-1)) else ((impl_placeOf.f a0 a1).bind fun t422 => (some t422)))))) = some r:=h;clear h;by_cases c3 : a0 < 0
 ·
  rw [if_pos c3] at H;have c3b0 : decide (a0 < 0) = true:=decide_eq_true c3;clear c3;obtain rfl:=Option.some.inj H;go_enter Try.func29,Try.ntmps29;go_wp2;go_ret;exact ⟨by rfl,by repeat (exact Drawn0.refl _)⟩
 ·
  rw [if_neg c3] at H;have c3b0 : decide (a0 < 0) = false:=decide_eq_false c3;clear c3;by_cases c4 : a0 > 5
  ·
   rw [if_pos c4] at H;have c4b0 : decide (5 < a0) = true:=decide_eq_true c4;clear c4;obtain rfl:=Option.some.inj H;go_enter Try.func29,Try.ntmps29;go_wp2;go_ret;exact ⟨by rfl,by repeat (exact Drawn0.refl _)⟩
  ·
   rw [if_neg c4] at H;have c4b0 : decide (5 < a0) = false:=decide_eq_false c4;clear c4;by_cases c5 : a1 < 0
   ·
    rw [if_pos c5] at H;have c5b0 : decide (a1 < 0) = true:=decide_eq_true c5;clear c5;obtain rfl:=Option.some.inj H;go_enter Try.func29,Try.ntmps29;go_wp2;go_ret;exact ⟨by rfl,by repeat (exact Drawn0.refl _)⟩
   ·
    rw [if_neg c5] at H;have c5b0 : decide (a1 < 0) = false:=decide_eq_false c5;clear c5;by_cases c6 : a1 > a0
    ·
     rw [if_pos c6] at H;have c6b0 : decide (a0 < a1) = true:=decide_eq_true c6;clear c6;obtain rfl:=Option.some.inj H;go_enter Try.func29,Try.ntmps29;go_wp2;go_ret;exact ⟨by rfl,by repeat (exact Drawn0.refl _)⟩
    ·
     rw [if_neg c6] at H;have c6b0 : decide (a0 < a1) = false:=decide_eq_false c6;clear c6;replace H:=Option.bind_eq_some_iff.mp H;obtain ⟨t422,A70,H⟩:=H;have A7:=Aside0.mk A70;clear A70;obtain rfl:=Option.some.inj H;go_enter Try.func29,Try.ntmps29;go_wp2_with (((with_reducible refine gate_callee (f:=44) rfl ?_);refine goesL_ (some 22) rfl rfl Try.func44 (by kernel_rfl) rfl #[.int .i64 a0,.int .i64 a1] rfl (by (try simp only [List.map_toArray,List.map_cons,List.map_nil]);rfl) ?_;(with_reducible refine (impl_placeOf.calls a0 a1 t422 _ A7.out).mono ?_);rintro e w' ⟨rfl,⟨nd,rfl⟩⟩;refine ⟨_,rfl,?_⟩))
     go_ret;exact ⟨by rfl,by repeat (first|exact Drawn0.refl _|apply Drawn0.step)⟩

/-! ### laws_alive: function 12 -/
def laws_alive.f  : Option (Bool):=(impl_PlaceOf.f 0 0).bind fun t423 => (if t423 = 0 then ((impl_PlaceOf.f 0 1).bind fun t424 => (some (t424 == (-1)))) else (some false))
set_option maxHeartbeats 8000000 in
set_option maxRecDepth 100000 in
theorem laws_alive.calls  (r : Bool) (w : World) (h : laws_alive.f  = some r) :
  Calls Try.prog 12 #[] w fun e w' => e = .returned (.bool r) ∧ Drawn0 w w':=by
 have H : ((impl_PlaceOf.f 0 0).bind fun t423 => (if t423 = 0 then ((impl_PlaceOf.f 0 1).bind fun t424 => (some (t424 == (-1)))) else (some false))) = some r:=h;clear h;replace H:=Option.bind_eq_some_iff.mp H;obtain ⟨t423,A10,H⟩:=H;have A1:=Aside0.mk A10;clear A10;by_cases c2 : t423 = 0
 ·
  rw [if_pos c2] at H;have c2b0 : (t423 == 0) = true:=beq_iff_eq.mpr c2;have c2b1 : (t423 != 0) = false:=bne_eq_false_iff_eq.mpr c2;clear c2;replace H:=Option.bind_eq_some_iff.mp H;obtain ⟨t424,A30,H⟩:=H;have A3:=Aside0.mk A30;clear A30;obtain rfl:=Option.some.inj H;go_enter Try.func12,Try.ntmps12;go_wp2_with (first|((with_reducible refine gate_callee (f:=29) rfl ?_);refine goesL_ (some 1) rfl rfl Try.func29 (by kernel_rfl) rfl #[.int .i64 0,.int .i64 0] rfl (by (try simp only [List.map_toArray,List.map_cons,List.map_nil]);rfl) ?_;(with_reducible refine (impl_PlaceOf.calls 0 0 t423 _ A1.out).mono ?_);rintro e w' ⟨rfl,⟨nd,rfl⟩⟩;refine ⟨_,rfl,?_⟩)|(go_at_call 29;(with_reducible refine (impl_PlaceOf.calls 0 1 t424 _ A3.out).mono ?_);rintro e w' ⟨rfl,⟨nd,rfl⟩⟩))
  go_ret;exact ⟨by rfl,by repeat (first|exact Drawn0.refl _|apply Drawn0.step)⟩
 ·
  rw [if_neg c2] at H;have c2b0 : (t423 == 0) = false:=beq_eq_false_iff_ne.mpr c2;have c2b1 : (t423 != 0) = true:=bne_iff_ne.mpr c2;obtain rfl:=Option.some.inj H;go_enter Try.func12,Try.ntmps12;go_wp2_with (((with_reducible refine gate_callee (f:=29) rfl ?_);refine goesL_ (some 1) rfl rfl Try.func29 (by kernel_rfl) rfl #[.int .i64 0,.int .i64 0] rfl (by (try simp only [List.map_toArray,List.map_cons,List.map_nil]);rfl) ?_;(with_reducible refine (impl_PlaceOf.calls 0 0 t423 _ A1.out).mono ?_);rintro e w' ⟨rfl,⟨nd,rfl⟩⟩;refine ⟨_,rfl,?_⟩))
  go_ret;exact ⟨by rfl,by repeat (first|exact Drawn0.refl _|apply Drawn0.step)⟩

end Go.Proofs.Ytmkfmbjemdbigaa.PA
