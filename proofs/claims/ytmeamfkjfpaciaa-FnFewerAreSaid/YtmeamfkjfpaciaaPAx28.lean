/- The machine side of functions of this seat, written by the session's program myprint.py: for each Go function a Lean function and the proof that the call answers just it. -/
import Derived.Test.YtmeamfkjfpaciaaPAx0
import Derived.Test.YtmeamfkjfpaciaaUp
import Derived.Test.YtmeamfkjfpaciaaPAx5
import Derived.Test.YtmeamfkjfpaciaaPAx27
namespace Go.Proofs.Ytmeamfkjfpaciaa.PA
open Go.RowKit Go.Proofs.YtmeamfkjfpaciaaW.PrintWords Go.Proofs.YtmeamfkjfpaciaaW.PrintLast Go.Proofs.YtmeamfkjfpaciaaW.PrintMore
attribute [local go_sem] max2_int min2_int max_two min_two max_three min_three max_four min_four   -- for this text's walks alone
set_option linter.unusedVariables false
set_option linter.unusedSimpArgs false

/-! ### spec_FewerAre: function 16 -/
def spec_FewerAre.f (k : Nat) (l0 : List Int) : Option (Bool):=(spec_TriangleOk.f k l0).bind fun t392 => (if t392 = true then ((spec_l3Each.f k l0 (-1) 0).bind fun t393 => (if t393 = true then ((spec_l3Each.f k l0 (-1) (-1)).bind fun t394 => (some t394)) else (some false))) else (some false))
theorem spec_FewerAre.mono : ∀ a0 k,LeO (spec_FewerAre.f k a0) (spec_FewerAre.f (k + 1) a0):=by
 intro a0 k
 unfold spec_FewerAre.f
 repeat' first
   | (with_reducible exact spec_TriangleOk.mono _ _)
   | (with_reducible exact spec_l3Each.mono _ _ _ _)
   | (with_reducible exact LeO.refl _)
   | (with_reducible exact LeO.none _)
   | (with_reducible refine LeO.ite ?_ ?_)
   | (with_reducible refine LeO.bind ?_ (fun _ => ?_))
   | exact spec_TriangleOk.mono _ _
   | exact spec_l3Each.mono _ _ _ _
   | exact LeO.none _
   | refine LeO.ite ?_ ?_
   | refine LeO.bind ?_ (fun _ => ?_)
set_option maxHeartbeats 8000000 in
set_option maxRecDepth 100000 in
theorem spec_FewerAre.calls (k : Nat) (A0 : Option Addr) (c0 : Nat) (l0 : List Int) (r : Bool) (w : World) (hr0 : Kd.C (Kd.int .i64) w A0 l0.length l0) (hc0 : l0.length ≤ c0) (h : spec_FewerAre.f k l0 = some r) :
  Calls Try.prog 16 #[.slice A0 l0.length c0] w fun e w' => e = .returned (.bool r) ∧ Drawn0 w w':=by
 have HR0:=Aside0.mk hr0
 have HC0:=Aside0.mk hc0;clear hr0 hc0
 have H : ((spec_TriangleOk.f k l0).bind fun t392 => (if t392 = true then ((spec_l3Each.f k l0 (-1) 0).bind fun t393 => (if t393 = true then ((spec_l3Each.f k l0 (-1) (-1)).bind fun t394 => (some t394)) else (some false))) else (some false))) = some r:=h;clear h
 replace H:=Option.bind_eq_some_iff.mp H
 obtain ⟨t392,A20,H⟩:=H
 replace H : (if t392 = true then ((spec_l3Each.f k l0 (-1) 0).bind fun t393 => (if t393 = true then ((spec_l3Each.f k l0 (-1) (-1)).bind fun t394 => (some t394)) else (some false))) else (some false)) = some r:=H
 have A2:=Aside0.mk A20;clear A20
 by_cases c3 : t392 = true
 ·
  subst c3
  have H1 : ((spec_l3Each.f k l0 (-1) 0).bind fun t393 => (if t393 = true then ((spec_l3Each.f k l0 (-1) (-1)).bind fun t394 => (some t394)) else (some false))) = some r:=by rw [if_pos rfl] at H;exact H
  clear H;have H:=H1;clear H1
  replace H:=Option.bind_eq_some_iff.mp H
  obtain ⟨t393,A40,H⟩:=H
  replace H : (if t393 = true then ((spec_l3Each.f k l0 (-1) (-1)).bind fun t394 => (some t394)) else (some false)) = some r:=H
  have A4:=Aside0.mk A40;clear A40
  by_cases c5 : t393 = true
  ·
   subst c5
   have H1 : ((spec_l3Each.f k l0 (-1) (-1)).bind fun t394 => (some t394)) = some r:=by rw [if_pos rfl] at H;exact H
   clear H;have H:=H1;clear H1
   replace H:=Option.bind_eq_some_iff.mp H
   obtain ⟨t394,A60,H⟩:=H
   replace H : (some t394) = some r:=H
   have A6:=Aside0.mk A60;clear A60
   obtain rfl:=Option.some.inj H
   go_enter Try.func16,Try.ntmps16
   go_wp2_with (first|((with_reducible refine gate_callee (f:=17) rfl ?_);refine goesL_ (some 4) rfl rfl Try.func17 (by kernel_rfl) rfl #[.slice A0 l0.length c0] rfl (by (try simp only [List.map_toArray,List.map_cons,List.map_nil]);first|done|rfl|(simp only [List.length_drop,List.length_take];rfl)) ?_;(with_reducible refine (spec_TriangleOk.calls k _ _ l0 true _ ?side1 ?side2 A2.out).mono ?_);(case side1 => repeat (first|exact HR0.out|(with_reducible refine Kd.C_alloc ?_ _)|(with_reducible refine Kd.C_drewN ?_ _)|(with_reducible refine Kd.C_drew ?_)));(case side2 => exact HC0.out);rintro e w' ⟨rfl,⟨nd,rfl⟩⟩;refine ⟨_,rfl,?_⟩)|(go_at_call 36;(with_reducible refine (spec_l3Each.calls k _ _ l0 (-1) 0 true _ ?side1 ?side2 A4.out).mono ?_);(case side1 => repeat (first|exact HR0.out|(with_reducible refine Kd.C_alloc ?_ _)|(with_reducible refine Kd.C_drewN ?_ _)|(with_reducible refine Kd.C_drew ?_)));(case side2 => exact HC0.out);rintro e w' ⟨rfl,⟨nd,rfl⟩⟩)|(go_at_call 36;(with_reducible refine (spec_l3Each.calls k _ _ l0 (-1) (-1) t394 _ ?side1 ?side2 A6.out).mono ?_);(case side1 => repeat (first|exact HR0.out|(with_reducible refine Kd.C_alloc ?_ _)|(with_reducible refine Kd.C_drewN ?_ _)|(with_reducible refine Kd.C_drew ?_)));(case side2 => exact HC0.out);rintro e w' ⟨rfl,⟨nd,rfl⟩⟩))
   go_ret
   exact ⟨by first|rfl|(simp;done)|(simp [*];done),by repeat (first|exact Drawn0.refl _|apply Drawn0.step)⟩
  ·
   replace c5:=Bool.eq_false_iff.mpr c5;subst c5
   have H1 : (some false) = some r:=by rw [if_neg (show ¬ (false = true) by decide)] at H;exact H
   clear H;have H:=H1;clear H1
   obtain rfl:=Option.some.inj H
   go_enter Try.func16,Try.ntmps16
   go_wp2_with (first|((with_reducible refine gate_callee (f:=17) rfl ?_);refine goesL_ (some 4) rfl rfl Try.func17 (by kernel_rfl) rfl #[.slice A0 l0.length c0] rfl (by (try simp only [List.map_toArray,List.map_cons,List.map_nil]);first|done|rfl|(simp only [List.length_drop,List.length_take];rfl)) ?_;(with_reducible refine (spec_TriangleOk.calls k _ _ l0 true _ ?side1 ?side2 A2.out).mono ?_);(case side1 => repeat (first|exact HR0.out|(with_reducible refine Kd.C_alloc ?_ _)|(with_reducible refine Kd.C_drewN ?_ _)|(with_reducible refine Kd.C_drew ?_)));(case side2 => exact HC0.out);rintro e w' ⟨rfl,⟨nd,rfl⟩⟩;refine ⟨_,rfl,?_⟩)|(go_at_call 36;(with_reducible refine (spec_l3Each.calls k _ _ l0 (-1) 0 false _ ?side1 ?side2 A4.out).mono ?_);(case side1 => repeat (first|exact HR0.out|(with_reducible refine Kd.C_alloc ?_ _)|(with_reducible refine Kd.C_drewN ?_ _)|(with_reducible refine Kd.C_drew ?_)));(case side2 => exact HC0.out);rintro e w' ⟨rfl,⟨nd,rfl⟩⟩))
   go_ret
   exact ⟨by first|rfl|(simp;done)|(simp [*];done),by repeat (first|exact Drawn0.refl _|apply Drawn0.step)⟩
 ·
  replace c3:=Bool.eq_false_iff.mpr c3;subst c3
  have H1 : (some false) = some r:=by rw [if_neg (show ¬ (false = true) by decide)] at H;exact H
  clear H;have H:=H1;clear H1
  obtain rfl:=Option.some.inj H
  go_enter Try.func16,Try.ntmps16
  go_wp2_with (first|((with_reducible refine gate_callee (f:=17) rfl ?_);refine goesL_ (some 4) rfl rfl Try.func17 (by kernel_rfl) rfl #[.slice A0 l0.length c0] rfl (by (try simp only [List.map_toArray,List.map_cons,List.map_nil]);first|done|rfl|(simp only [List.length_drop,List.length_take];rfl)) ?_;(with_reducible refine (spec_TriangleOk.calls k _ _ l0 false _ ?side1 ?side2 A2.out).mono ?_);(case side1 => repeat (first|exact HR0.out|(with_reducible refine Kd.C_alloc ?_ _)|(with_reducible refine Kd.C_drewN ?_ _)|(with_reducible refine Kd.C_drew ?_)));(case side2 => exact HC0.out);rintro e w' ⟨rfl,⟨nd,rfl⟩⟩;refine ⟨_,rfl,?_⟩))
  go_ret
  exact ⟨by first|rfl|(simp;done)|(simp [*];done),by repeat (first|exact Drawn0.refl _|apply Drawn0.step)⟩

/-! ### spec_l2Size: function 38 -/
def spec_l2Size.l0 : Nat → Int → Int → Int → Option (Int)
 | 0,_,_,_ => none
 | k + 1,x0,x3,x4 => if x4 < 8 then (if 0 ≤ x4 then (spec_l2Size.l0 k x0 (wrap64 (x3 + (Int.tmod (shr .i64 x0 x4) 2))) (wrap64 (x4 + 1))) else (none)) else (some x3)
def spec_l2Size.f (k : Nat) (a0 : Int) : Option (Int):=spec_l2Size.l0 k a0 0 0
theorem spec_l2Size.mono_l : ∀ k,(∀ y0 y1 y2,LeO (spec_l2Size.l0 k y0 y1 y2) (spec_l2Size.l0 (k + 1) y0 y1 y2))
 | 0 => fun _ _ _ r h => by simp [spec_l2Size.l0] at h
 | k + 1 => by
  have ih0:=spec_l2Size.mono_l k
  ·
   intro y0 y1 y2
   unfold spec_l2Size.l0
   repeat' first
   | (with_reducible exact ih0 _ _ _)
   | (with_reducible exact LeO.refl _)
   | (with_reducible exact LeO.none _)
   | (with_reducible refine LeO.ite ?_ ?_)
   | (with_reducible refine LeO.bind ?_ (fun _ => ?_))
   | exact ih0 _ _ _
   | exact LeO.none _
   | refine LeO.ite ?_ ?_
   | refine LeO.bind ?_ (fun _ => ?_)
theorem spec_l2Size.mono : ∀ a0 k,LeO (spec_l2Size.f k a0) (spec_l2Size.f (k + 1) a0):=by
 intro a0 k
 have ih0:=spec_l2Size.mono_l k
 unfold spec_l2Size.f
 repeat' first
   | (with_reducible exact ih0 _ _ _)
   | (with_reducible exact LeO.refl _)
   | (with_reducible exact LeO.none _)
   | (with_reducible refine LeO.ite ?_ ?_)
   | (with_reducible refine LeO.bind ?_ (fun _ => ?_))
   | exact ih0 _ _ _
   | exact LeO.none _
   | refine LeO.ite ?_ ?_
   | refine LeO.bind ?_ (fun _ => ?_)
set_option maxHeartbeats 8000000 in
set_option maxRecDepth 100000 in
theorem spec_l2Size.calls (k : Nat) (a0 : Int) (r : Int) (w : World) (h : spec_l2Size.f k a0 = some r) :
  Calls Try.prog 38 #[.int .i64 a0] w fun e w' => e = .returned (.int .i64 r) ∧ Drawn0 w w':=by
 have H : (spec_l2Size.l0 k a0 0 0) = some r:=h;clear h
 have H':=Aside0.mk H;clear H
 go_enter Try.func38,Try.ntmps38
 go_wp2
 go_loopg [3,4] k (fun kq v3 v4 w' => ∃ (x3_1 : Int) (x4_1 : Int),v3 = .int .i64 x3_1 ∧ v4 = .int .i64 x4_1 ∧ Aside0 (spec_l2Size.l0 kq a0 x3_1 x4_1 = some r) ∧ Aside0 (kq ≤ k) ∧ Drawn0 w w')
 case atStart => exact ⟨(0),(0),(by first|rfl|(simp;done)|(simp [*];done)),(by first|rfl|(simp;done)|(simp [*];done)),H',⟨Nat.le_refl _⟩,by repeat (first|exact Drawn0.refl _|apply Drawn0.step)⟩
 case round =>
  clear H'
  obtain ⟨x3_1,x4_1,rfl,rfl,HA,HK1,⟨m1,rfl⟩⟩:=hrel
  cases gk with
  | zero => exact absurd HA.out (by simp [spec_l2Size.l0])
  | succ k1 =>
   have H:=HA.out;clear HA
   simp only [spec_l2Size.l0] at H
   by_cases c2 : x4_1 < 8
   ·
    rw [if_pos c2] at H
    have c2b0 : decide (x4_1 < 8) = true:=decide_eq_true c2;clear c2
    by_cases c3 : 0 ≤ x4_1
    ·
     rw [if_pos c3] at H
     have c3b0:=eq_true c3
     have c3b1 : decide (0 ≤ x4_1) = true:=decide_eq_true c3;clear c3
     obtain ⟨ji4,hji4⟩ : ∃ j_ : Int,(shr .i64 a0 x4_1) = j_:=⟨_,rfl⟩
     replace H : (spec_l2Size.l0 k1 a0 (wrap64 (x3_1 + (Int.tmod (ji4) 2))) (wrap64 (x4_1 + 1))) = some r:=by first|(rw [hji4] at H;exact H)|(simp only [hji4] at H ⊢;exact H)
     have hji4_ : (a0 / 2 ^ min x4_1.toNat 64) = ji4:=hji4
     have hji4z : x4_1 ≤ 64 → (a0 / 2 ^ x4_1.toNat) = ji4:=shr_small hji4
     have H':=Aside0.mk H;clear H
     go_wp2
     go_roundg k1
     case measure => have:=HK1.out;omega
     case rel => exact ⟨(wrap64 (x3_1 + (Int.tmod (ji4) 2))),(wrap64 (x4_1 + 1)),(by first|rfl|(simp;done)|(simp only [← hji4] <;> (first|rfl|simp))|(simp [*];done)),(by first|rfl|(simp;done)|(simp [*];done)),H',⟨by have:=HK1.out;omega⟩,by repeat (first|exact Drawn0.refl _|apply Drawn0.step)⟩
    ·
     rw [if_neg c3] at H
     exact absurd H (by simp)
   ·
    rw [if_neg c2] at H
    have c2b0 : decide (x4_1 < 8) = false:=decide_eq_false c2;clear c2
    obtain rfl:=Option.some.inj H
    go_wp2
    go_ret
    exact ⟨by first|rfl|(simp;done)|(simp [*];done),by repeat (first|exact Drawn0.refl _|apply Drawn0.step)⟩

/-! ### spec_l2Both: function 39 -/
def spec_l2Both.l0 : Nat → Int → Int → Int → Int → Option (Int)
 | 0,_,_,_,_ => none
 | k + 1,x0,x1,x5,x6 => if x6 < 8 then (if 0 ≤ x6 then (spec_l2Both.l0 k x0 x1 (wrap64 (x5 + (shl .i64 (wrap64 ((Int.tmod (shr .i64 x0 x6) 2) * (Int.tmod (shr .i64 x1 x6) 2))) x6))) (wrap64 (x6 + 1))) else (none)) else (some x5)
def spec_l2Both.f (k : Nat) (a0 : Int) (a1 : Int) : Option (Int):=spec_l2Both.l0 k a0 a1 0 0
theorem spec_l2Both.mono_l : ∀ k,(∀ y0 y1 y2 y3,LeO (spec_l2Both.l0 k y0 y1 y2 y3) (spec_l2Both.l0 (k + 1) y0 y1 y2 y3))
 | 0 => fun _ _ _ _ r h => by simp [spec_l2Both.l0] at h
 | k + 1 => by
  have ih0:=spec_l2Both.mono_l k
  ·
   intro y0 y1 y2 y3
   unfold spec_l2Both.l0
   repeat' first
   | (with_reducible exact ih0 _ _ _ _)
   | (with_reducible exact LeO.refl _)
   | (with_reducible exact LeO.none _)
   | (with_reducible refine LeO.ite ?_ ?_)
   | (with_reducible refine LeO.bind ?_ (fun _ => ?_))
   | exact ih0 _ _ _ _
   | exact LeO.none _
   | refine LeO.ite ?_ ?_
   | refine LeO.bind ?_ (fun _ => ?_)
theorem spec_l2Both.mono : ∀ a0 a1 k,LeO (spec_l2Both.f k a0 a1) (spec_l2Both.f (k + 1) a0 a1):=by
 intro a0 a1 k
 have ih0:=spec_l2Both.mono_l k
 unfold spec_l2Both.f
 repeat' first
   | (with_reducible exact ih0 _ _ _ _)
   | (with_reducible exact LeO.refl _)
   | (with_reducible exact LeO.none _)
   | (with_reducible refine LeO.ite ?_ ?_)
   | (with_reducible refine LeO.bind ?_ (fun _ => ?_))
   | exact ih0 _ _ _ _
   | exact LeO.none _
   | refine LeO.ite ?_ ?_
   | refine LeO.bind ?_ (fun _ => ?_)
set_option maxHeartbeats 8000000 in
set_option maxRecDepth 100000 in
theorem spec_l2Both.calls (k : Nat) (a0 : Int) (a1 : Int) (r : Int) (w : World) (h : spec_l2Both.f k a0 a1 = some r) :
  Calls Try.prog 39 #[.int .i64 a0,.int .i64 a1] w fun e w' => e = .returned (.int .i64 r) ∧ Drawn0 w w':=by
 have H : (spec_l2Both.l0 k a0 a1 0 0) = some r:=h;clear h
 have H':=Aside0.mk H;clear H
 go_enter Try.func39,Try.ntmps39
 go_wp2
 repeat (go_quiet (fail);try go_wp2)
 go_loopg [5,6] k (fun kq v5 v6 w' => ∃ (x5_1 : Int) (x6_1 : Int),v5 = .int .i64 x5_1 ∧ v6 = .int .i64 x6_1 ∧ Aside0 (spec_l2Both.l0 kq a0 a1 x5_1 x6_1 = some r) ∧ Aside0 (kq ≤ k) ∧ Drawn0 w w')
 case atStart => exact ⟨(0),(0),(by first|rfl|(simp;done)|(simp [*];done)),(by first|rfl|(simp;done)|(simp [*];done)),H',⟨Nat.le_refl _⟩,by repeat (first|exact Drawn0.refl _|apply Drawn0.step)⟩
 case round =>
  clear H'
  try clear p2
  obtain ⟨x5_1,x6_1,rfl,rfl,HA,HK1,⟨m1,rfl⟩⟩:=hrel
  cases gk with
  | zero => exact absurd HA.out (by simp [spec_l2Both.l0])
  | succ k1 =>
   have H:=HA.out;clear HA
   simp only [spec_l2Both.l0] at H
   by_cases c3 : x6_1 < 8
   ·
    rw [if_pos c3] at H
    have c3b0 : decide (x6_1 < 8) = true:=decide_eq_true c3;clear c3
    by_cases c4 : 0 ≤ x6_1
    ·
     rw [if_pos c4] at H
     have c4b0:=eq_true c4
     have c4b1 : decide (0 ≤ x6_1) = true:=decide_eq_true c4;clear c4
     obtain ⟨ji5,hji5⟩ : ∃ j_ : Int,(shr .i64 a0 x6_1) = j_:=⟨_,rfl⟩
     replace H : (spec_l2Both.l0 k1 a0 a1 (wrap64 (x5_1 + (shl .i64 (wrap64 ((Int.tmod (ji5) 2) * (Int.tmod (shr .i64 a1 x6_1) 2))) x6_1))) (wrap64 (x6_1 + 1))) = some r:=by first|(rw [hji5] at H;exact H)|(simp only [hji5] at H ⊢;exact H)
     have hji5_ : (a0 / 2 ^ min x6_1.toNat 64) = ji5:=hji5
     have hji5z : x6_1 ≤ 64 → (a0 / 2 ^ x6_1.toNat) = ji5:=shr_small hji5
     have c6b0:=eq_true (of_decide_eq_true (by first|(with_reducible assumption)|assumption) : 0 ≤ x6_1)
     obtain ⟨ji7,hji7⟩ : ∃ j_ : Int,(shr .i64 a1 x6_1) = j_:=⟨_,rfl⟩
     replace H : (spec_l2Both.l0 k1 a0 a1 (wrap64 (x5_1 + (shl .i64 (wrap64 ((Int.tmod (ji5) 2) * (Int.tmod (ji7) 2))) x6_1))) (wrap64 (x6_1 + 1))) = some r:=by first|(rw [hji7] at H;exact H)|(simp only [hji7] at H ⊢;exact H)
     have hji7_ : (a1 / 2 ^ min x6_1.toNat 64) = ji7:=hji7
     have hji7z : x6_1 ≤ 64 → (a1 / 2 ^ x6_1.toNat) = ji7:=shr_small hji7
     have c8b0:=eq_true (of_decide_eq_true (by first|(with_reducible assumption)|assumption) : 0 ≤ x6_1)
     obtain ⟨ji9,hji9⟩ : ∃ j_ : Int,(shl .i64 (wrap64 ((Int.tmod (ji5) 2) * (Int.tmod (ji7) 2))) x6_1) = j_:=⟨_,rfl⟩
     replace H : (spec_l2Both.l0 k1 a0 a1 (wrap64 (x5_1 + (ji9))) (wrap64 (x6_1 + 1))) = some r:=by first|(rw [hji9] at H;exact H)|(simp only [hji9] at H ⊢;exact H)
     have hji9_ : (IntKind.i64.wrap ((wrap64 ((Int.tmod (ji5) 2) * (Int.tmod (ji7) 2))) * 2 ^ min x6_1.toNat 64)) = ji9:=hji9
     have hji9z : x6_1 ≤ 64 → (IntKind.i64.wrap ((wrap64 ((Int.tmod (ji5) 2) * (Int.tmod (ji7) 2))) * 2 ^ x6_1.toNat)) = ji9:=shl_small hji9
     have hji9y : (wrap64 ((wrap64 ((Int.tmod (ji5) 2) * (Int.tmod (ji7) 2))) * 2 ^ min x6_1.toNat 64)) = ji9:=(i64_w _).symm.trans hji9_
     have hji9x : x6_1 ≤ 64 → (wrap64 ((wrap64 ((Int.tmod (ji5) 2) * (Int.tmod (ji7) 2))) * 2 ^ x6_1.toNat)) = ji9:=fun h_ => (i64_w _).symm.trans (hji9z h_)
     have H':=Aside0.mk H;clear H
     go_wp2
     repeat (go_quiet (fail);try go_wp2)
     go_roundg k1
     case measure => have:=HK1.out;omega
     case rel => exact ⟨(wrap64 (x5_1 + (ji9))),(wrap64 (x6_1 + 1)),(by first|rfl|(simp;done)|(simp only [← hji9] <;> (first|rfl|simp))|(simp [*];done)),(by first|rfl|(simp;done)|(simp [*];done)),H',⟨by have:=HK1.out;omega⟩,by repeat (first|exact Drawn0.refl _|apply Drawn0.step)⟩
    ·
     rw [if_neg c4] at H
     exact absurd H (by simp)
   ·
    rw [if_neg c3] at H
    have c3b0 : decide (x6_1 < 8) = false:=decide_eq_false c3;clear c3
    obtain rfl:=Option.some.inj H
    go_wp2
    repeat (go_quiet (fail);try go_wp2)
    go_ret
    exact ⟨by first|rfl|(simp;done)|(simp [*];done),by repeat (first|exact Drawn0.refl _|apply Drawn0.step)⟩

end Go.Proofs.Ytmeamfkjfpaciaa.PA
