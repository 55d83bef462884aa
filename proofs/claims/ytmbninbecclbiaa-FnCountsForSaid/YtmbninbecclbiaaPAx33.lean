/- The machine side of functions of this seat, written by the session's program myprint.py: for each Go function a Lean function and the proof that the call answers just it. -/
import Derived.Test.YtmbninbecclbiaaPAx0
import Derived.Test.YtmbninbecclbiaaUp
import Derived.Test.YtmbninbecclbiaaPAx9
import Derived.Test.YtmbninbecclbiaaPAx10
import Derived.Test.YtmbninbecclbiaaPAx19
import Derived.Test.YtmbninbecclbiaaPAx28
import Derived.Test.YtmbninbecclbiaaPAx29
import Derived.Test.YtmbninbecclbiaaPAx31
import Derived.Test.YtmbninbecclbiaaPAx32
namespace Go.Proofs.Ytmbninbecclbiaa.PA
open Go.RowKit Go.Proofs.YtmbninbecclbiaaW.PrintWords Go.Proofs.YtmbninbecclbiaaW.PrintLast Go.Proofs.YtmbninbecclbiaaW.PrintMore
attribute [local go_sem] max2_int min2_int max_two min_two max_three min_three max_four min_four   -- for this text's walks alone
set_option linter.unusedVariables false
set_option linter.unusedSimpArgs false

/-! ### laws_FnCountsFor: function 4 -/
mutual
def laws_FnCountsFor.j0 : Nat → List Int → List Int → Bool → Option (Bool)
 | 0,_,_,_ => none
 | k + 1,x0,x1,x22 => if x22 = true then (some true) else ((spec_DrawCountsFor.f k x0).bind fun t456 => ((impl_CountsFor.f t456).bind fun bt459 => ((spec_CountsFor.f k t456).bind fun bt463 => ((laws_sameInts.f k bt459.1 bt463.1).bind fun t467 => (if t467 = true then (laws_FnCountsFor.j1 k x1 t456 bt459.1 bt459.2 (bt459.2 != bt463.2)) else (laws_FnCountsFor.j1 k x1 t456 bt459.1 bt459.2 true))))))
def laws_FnCountsFor.j1 : Nat → List Int → List (S29) → List Int → Bool → Bool → Option (Bool)
 | 0,_,_,_,_,_ => none
 | k + 1,x1,x5,x6,x7,x43 => if x43 = true then (some false) else (laws_FnCountsFor.l0 k x1 x5 x6 x7 0)
def laws_FnCountsFor.l0 : Nat → List Int → List (S29) → List Int → Bool → Int → Option (Bool)
 | 0,_,_,_,_,_ => none
 | k + 1,x1,x5,x6,x7,x10 => if x10 < (x5.length : Int) then (laws_FnCountsFor.j3 k x1 x5 x6 x7 x10 x7) else (laws_FnCountsFor.j3 k x1 x5 x6 x7 x10 false)
def laws_FnCountsFor.j3 : Nat → List Int → List (S29) → List Int → Bool → Int → Bool → Option (Bool)
 | 0,_,_,_,_,_,_ => none
 | k + 1,x1,x5,x6,x7,x10,x50 => if x50 = true then (if 0 ≤ x10 then (if x10 < (x5.length : Int) then ((impl_WeighSo.f k x6 ((rd_T29 x5 x10).f0) ((rd_T29 x5 x10).f1) ((rd_T29 x5 x10).f2)).bind fun t469 => (if t469 = true then (laws_FnCountsFor.l0 k x1 x5 x6 x7 (wrap64 (x10 + 1))) else (some false))) else (none)) else (none)) else ((spec_DrawWeighSo.f k x1).bind fun bt470 => ((spec_CountsOk.f k bt470.1).bind fun t477 => (if t477 = true then (laws_FnCountsFor.j4 k x5 x6 x7 bt470.1 (decide ((x5.length : Int) ≤ 6))) else (laws_FnCountsFor.j4 k x5 x6 x7 bt470.1 false))))
def laws_FnCountsFor.j4 : Nat → List (S29) → List Int → Bool → List Int → Bool → Option (Bool)
 | 0,_,_,_,_,_ => none
 | k + 1,x5,x6,x7,x11,x13 => laws_FnCountsFor.l1 k x5 x6 x7 x11 x13 0
def laws_FnCountsFor.l1 : Nat → List (S29) → List Int → Bool → List Int → Bool → Int → Option (Bool)
 | 0,_,_,_,_,_,_ => none
 | k + 1,x5,x6,x7,x11,x13,x14 => if x14 < (x5.length : Int) then (if x13 = true then (if 0 ≤ x14 then ((impl_WeighSo.f k x11 ((rd_T29 x5 x14).f0) ((rd_T29 x5 x14).f1) ((rd_T29 x5 x14).f2)).bind fun t479 => (laws_FnCountsFor.l1 k x5 x6 x7 x11 t479 (wrap64 (x14 + 1)))) else (none)) else (laws_FnCountsFor.l1 k x5 x6 x7 x11 false (wrap64 (x14 + 1)))) else (if x13 = true then (if x7 = true then ((laws_alive.f).bind fun t480 => (some t480)) else (some false)) else (if x7 = true then ((laws_alive.f).bind fun t481 => (some t481)) else (if (x6.length : Int) = 0 then ((laws_alive.f).bind fun t482 => (some t482)) else (some false))))
end
def laws_FnCountsFor.f (k : Nat) (l0 : List Int) (l1 : List Int) : Option (Bool):=if (l0.length : Int) > 1048576 then (laws_FnCountsFor.j0 k l0 l1 true) else (laws_FnCountsFor.j0 k l0 l1 (decide ((l1.length : Int) > 1048576)))
theorem laws_FnCountsFor.mono_l : ∀ k,(∀ y0 y1 y2,LeO (laws_FnCountsFor.j0 k y0 y1 y2) (laws_FnCountsFor.j0 (k + 1) y0 y1 y2)) ∧ (∀ y0 y1 y2 y3 y4,LeO (laws_FnCountsFor.j1 k y0 y1 y2 y3 y4) (laws_FnCountsFor.j1 (k + 1) y0 y1 y2 y3 y4)) ∧ (∀ y0 y1 y2 y3 y4,LeO (laws_FnCountsFor.l0 k y0 y1 y2 y3 y4) (laws_FnCountsFor.l0 (k + 1) y0 y1 y2 y3 y4)) ∧ (∀ y0 y1 y2 y3 y4 y5,LeO (laws_FnCountsFor.j3 k y0 y1 y2 y3 y4 y5) (laws_FnCountsFor.j3 (k + 1) y0 y1 y2 y3 y4 y5)) ∧ (∀ y0 y1 y2 y3 y4,LeO (laws_FnCountsFor.j4 k y0 y1 y2 y3 y4) (laws_FnCountsFor.j4 (k + 1) y0 y1 y2 y3 y4)) ∧ (∀ y0 y1 y2 y3 y4 y5,LeO (laws_FnCountsFor.l1 k y0 y1 y2 y3 y4 y5) (laws_FnCountsFor.l1 (k + 1) y0 y1 y2 y3 y4 y5))
 | 0 => ⟨fun _ _ _ r h => by simp [laws_FnCountsFor.j0] at h,fun _ _ _ _ _ r h => by simp [laws_FnCountsFor.j1] at h,fun _ _ _ _ _ r h => by simp [laws_FnCountsFor.l0] at h,fun _ _ _ _ _ _ r h => by simp [laws_FnCountsFor.j3] at h,fun _ _ _ _ _ r h => by simp [laws_FnCountsFor.j4] at h,fun _ _ _ _ _ _ r h => by simp [laws_FnCountsFor.l1] at h⟩
 | k + 1 => by
  obtain ⟨ih0,ih1,ih2,ih3,ih4,ih5⟩:=laws_FnCountsFor.mono_l k
  refine ⟨?_,?_,?_,?_,?_,?_⟩
  ·
   intro y0 y1 y2
   unfold laws_FnCountsFor.j0
   repeat' first
   | (with_reducible exact ih0 _ _ _)
   | (with_reducible exact ih1 _ _ _ _ _)
   | (with_reducible exact ih2 _ _ _ _ _)
   | (with_reducible exact ih3 _ _ _ _ _ _)
   | (with_reducible exact ih4 _ _ _ _ _)
   | (with_reducible exact ih5 _ _ _ _ _ _)
   | (with_reducible exact impl_WeighSo.mono _ _ _ _ _)
   | (with_reducible exact laws_sameInts.mono _ _ _)
   | (with_reducible exact spec_CountsFor.mono _ _)
   | (with_reducible exact spec_CountsOk.mono _ _)
   | (with_reducible exact spec_DrawCountsFor.mono _ _)
   | (with_reducible exact spec_DrawWeighSo.mono _ _)
   | (with_reducible exact LeO.refl _)
   | (with_reducible exact LeO.none _)
   | (with_reducible refine LeO.ite ?_ ?_)
   | (with_reducible refine LeO.bind ?_ (fun _ => ?_))
   | exact ih0 _ _ _
   | exact ih1 _ _ _ _ _
   | exact ih2 _ _ _ _ _
   | exact ih3 _ _ _ _ _ _
   | exact ih4 _ _ _ _ _
   | exact ih5 _ _ _ _ _ _
   | exact impl_WeighSo.mono _ _ _ _ _
   | exact laws_sameInts.mono _ _ _
   | exact spec_CountsFor.mono _ _
   | exact spec_CountsOk.mono _ _
   | exact spec_DrawCountsFor.mono _ _
   | exact spec_DrawWeighSo.mono _ _
   | exact LeO.none _
   | refine LeO.ite ?_ ?_
   | refine LeO.bind ?_ (fun _ => ?_)
  ·
   intro y0 y1 y2 y3 y4
   unfold laws_FnCountsFor.j1
   repeat' first
   | (with_reducible exact ih0 _ _ _)
   | (with_reducible exact ih1 _ _ _ _ _)
   | (with_reducible exact ih2 _ _ _ _ _)
   | (with_reducible exact ih3 _ _ _ _ _ _)
   | (with_reducible exact ih4 _ _ _ _ _)
   | (with_reducible exact ih5 _ _ _ _ _ _)
   | (with_reducible exact impl_WeighSo.mono _ _ _ _ _)
   | (with_reducible exact laws_sameInts.mono _ _ _)
   | (with_reducible exact spec_CountsFor.mono _ _)
   | (with_reducible exact spec_CountsOk.mono _ _)
   | (with_reducible exact spec_DrawCountsFor.mono _ _)
   | (with_reducible exact spec_DrawWeighSo.mono _ _)
   | (with_reducible exact LeO.refl _)
   | (with_reducible exact LeO.none _)
   | (with_reducible refine LeO.ite ?_ ?_)
   | (with_reducible refine LeO.bind ?_ (fun _ => ?_))
   | exact ih0 _ _ _
   | exact ih1 _ _ _ _ _
   | exact ih2 _ _ _ _ _
   | exact ih3 _ _ _ _ _ _
   | exact ih4 _ _ _ _ _
   | exact ih5 _ _ _ _ _ _
   | exact impl_WeighSo.mono _ _ _ _ _
   | exact laws_sameInts.mono _ _ _
   | exact spec_CountsFor.mono _ _
   | exact spec_CountsOk.mono _ _
   | exact spec_DrawCountsFor.mono _ _
   | exact spec_DrawWeighSo.mono _ _
   | exact LeO.none _
   | refine LeO.ite ?_ ?_
   | refine LeO.bind ?_ (fun _ => ?_)
  ·
   intro y0 y1 y2 y3 y4
   unfold laws_FnCountsFor.l0
   repeat' first
   | (with_reducible exact ih0 _ _ _)
   | (with_reducible exact ih1 _ _ _ _ _)
   | (with_reducible exact ih2 _ _ _ _ _)
   | (with_reducible exact ih3 _ _ _ _ _ _)
   | (with_reducible exact ih4 _ _ _ _ _)
   | (with_reducible exact ih5 _ _ _ _ _ _)
   | (with_reducible exact impl_WeighSo.mono _ _ _ _ _)
   | (with_reducible exact laws_sameInts.mono _ _ _)
   | (with_reducible exact spec_CountsFor.mono _ _)
   | (with_reducible exact spec_CountsOk.mono _ _)
   | (with_reducible exact spec_DrawCountsFor.mono _ _)
   | (with_reducible exact spec_DrawWeighSo.mono _ _)
   | (with_reducible exact LeO.refl _)
   | (with_reducible exact LeO.none _)
   | (with_reducible refine LeO.ite ?_ ?_)
   | (with_reducible refine LeO.bind ?_ (fun _ => ?_))
   | exact ih0 _ _ _
   | exact ih1 _ _ _ _ _
   | exact ih2 _ _ _ _ _
   | exact ih3 _ _ _ _ _ _
   | exact ih4 _ _ _ _ _
   | exact ih5 _ _ _ _ _ _
   | exact impl_WeighSo.mono _ _ _ _ _
   | exact laws_sameInts.mono _ _ _
   | exact spec_CountsFor.mono _ _
   | exact spec_CountsOk.mono _ _
   | exact spec_DrawCountsFor.mono _ _
   | exact spec_DrawWeighSo.mono _ _
   | exact LeO.none _
   | refine LeO.ite ?_ ?_
   | refine LeO.bind ?_ (fun _ => ?_)
  ·
   intro y0 y1 y2 y3 y4 y5
   unfold laws_FnCountsFor.j3
   repeat' first
   | (with_reducible exact ih0 _ _ _)
   | (with_reducible exact ih1 _ _ _ _ _)
   | (with_reducible exact ih2 _ _ _ _ _)
   | (with_reducible exact ih3 _ _ _ _ _ _)
   | (with_reducible exact ih4 _ _ _ _ _)
   | (with_reducible exact ih5 _ _ _ _ _ _)
   | (with_reducible exact impl_WeighSo.mono _ _ _ _ _)
   | (with_reducible exact laws_sameInts.mono _ _ _)
   | (with_reducible exact spec_CountsFor.mono _ _)
   | (with_reducible exact spec_CountsOk.mono _ _)
   | (with_reducible exact spec_DrawCountsFor.mono _ _)
   | (with_reducible exact spec_DrawWeighSo.mono _ _)
   | (with_reducible exact LeO.refl _)
   | (with_reducible exact LeO.none _)
   | (with_reducible refine LeO.ite ?_ ?_)
   | (with_reducible refine LeO.bind ?_ (fun _ => ?_))
   | exact ih0 _ _ _
   | exact ih1 _ _ _ _ _
   | exact ih2 _ _ _ _ _
   | exact ih3 _ _ _ _ _ _
   | exact ih4 _ _ _ _ _
   | exact ih5 _ _ _ _ _ _
   | exact impl_WeighSo.mono _ _ _ _ _
   | exact laws_sameInts.mono _ _ _
   | exact spec_CountsFor.mono _ _
   | exact spec_CountsOk.mono _ _
   | exact spec_DrawCountsFor.mono _ _
   | exact spec_DrawWeighSo.mono _ _
   | exact LeO.none _
   | refine LeO.ite ?_ ?_
   | refine LeO.bind ?_ (fun _ => ?_)
  ·
   intro y0 y1 y2 y3 y4
   unfold laws_FnCountsFor.j4
   repeat' first
   | (with_reducible exact ih0 _ _ _)
   | (with_reducible exact ih1 _ _ _ _ _)
   | (with_reducible exact ih2 _ _ _ _ _)
   | (with_reducible exact ih3 _ _ _ _ _ _)
   | (with_reducible exact ih4 _ _ _ _ _)
   | (with_reducible exact ih5 _ _ _ _ _ _)
   | (with_reducible exact impl_WeighSo.mono _ _ _ _ _)
   | (with_reducible exact laws_sameInts.mono _ _ _)
   | (with_reducible exact spec_CountsFor.mono _ _)
   | (with_reducible exact spec_CountsOk.mono _ _)
   | (with_reducible exact spec_DrawCountsFor.mono _ _)
   | (with_reducible exact spec_DrawWeighSo.mono _ _)
   | (with_reducible exact LeO.refl _)
   | (with_reducible exact LeO.none _)
   | (with_reducible refine LeO.ite ?_ ?_)
   | (with_reducible refine LeO.bind ?_ (fun _ => ?_))
   | exact ih0 _ _ _
   | exact ih1 _ _ _ _ _
   | exact ih2 _ _ _ _ _
   | exact ih3 _ _ _ _ _ _
   | exact ih4 _ _ _ _ _
   | exact ih5 _ _ _ _ _ _
   | exact impl_WeighSo.mono _ _ _ _ _
   | exact laws_sameInts.mono _ _ _
   | exact spec_CountsFor.mono _ _
   | exact spec_CountsOk.mono _ _
   | exact spec_DrawCountsFor.mono _ _
   | exact spec_DrawWeighSo.mono _ _
   | exact LeO.none _
   | refine LeO.ite ?_ ?_
   | refine LeO.bind ?_ (fun _ => ?_)
  ·
   intro y0 y1 y2 y3 y4 y5
   unfold laws_FnCountsFor.l1
   repeat' first
   | (with_reducible exact ih0 _ _ _)
   | (with_reducible exact ih1 _ _ _ _ _)
   | (with_reducible exact ih2 _ _ _ _ _)
   | (with_reducible exact ih3 _ _ _ _ _ _)
   | (with_reducible exact ih4 _ _ _ _ _)
   | (with_reducible exact ih5 _ _ _ _ _ _)
   | (with_reducible exact impl_WeighSo.mono _ _ _ _ _)
   | (with_reducible exact laws_sameInts.mono _ _ _)
   | (with_reducible exact spec_CountsFor.mono _ _)
   | (with_reducible exact spec_CountsOk.mono _ _)
   | (with_reducible exact spec_DrawCountsFor.mono _ _)
   | (with_reducible exact spec_DrawWeighSo.mono _ _)
   | (with_reducible exact LeO.refl _)
   | (with_reducible exact LeO.none _)
   | (with_reducible refine LeO.ite ?_ ?_)
   | (with_reducible refine LeO.bind ?_ (fun _ => ?_))
   | exact ih0 _ _ _
   | exact ih1 _ _ _ _ _
   | exact ih2 _ _ _ _ _
   | exact ih3 _ _ _ _ _ _
   | exact ih4 _ _ _ _ _
   | exact ih5 _ _ _ _ _ _
   | exact impl_WeighSo.mono _ _ _ _ _
   | exact laws_sameInts.mono _ _ _
   | exact spec_CountsFor.mono _ _
   | exact spec_CountsOk.mono _ _
   | exact spec_DrawCountsFor.mono _ _
   | exact spec_DrawWeighSo.mono _ _
   | exact LeO.none _
   | refine LeO.ite ?_ ?_
   | refine LeO.bind ?_ (fun _ => ?_)
theorem laws_FnCountsFor.mono : ∀ a0 a1 k,LeO (laws_FnCountsFor.f k a0 a1) (laws_FnCountsFor.f (k + 1) a0 a1):=by
 intro a0 a1 k
 obtain ⟨ih0,ih1,ih2,ih3,ih4,ih5⟩:=laws_FnCountsFor.mono_l k
 unfold laws_FnCountsFor.f
 repeat' first
   | (with_reducible exact ih0 _ _ _)
   | (with_reducible exact ih1 _ _ _ _ _)
   | (with_reducible exact ih2 _ _ _ _ _)
   | (with_reducible exact ih3 _ _ _ _ _ _)
   | (with_reducible exact ih4 _ _ _ _ _)
   | (with_reducible exact ih5 _ _ _ _ _ _)
   | (with_reducible exact impl_WeighSo.mono _ _ _ _ _)
   | (with_reducible exact laws_sameInts.mono _ _ _)
   | (with_reducible exact spec_CountsFor.mono _ _)
   | (with_reducible exact spec_CountsOk.mono _ _)
   | (with_reducible exact spec_DrawCountsFor.mono _ _)
   | (with_reducible exact spec_DrawWeighSo.mono _ _)
   | (with_reducible exact LeO.refl _)
   | (with_reducible exact LeO.none _)
   | (with_reducible refine LeO.ite ?_ ?_)
   | (with_reducible refine LeO.bind ?_ (fun _ => ?_))
   | exact ih0 _ _ _
   | exact ih1 _ _ _ _ _
   | exact ih2 _ _ _ _ _
   | exact ih3 _ _ _ _ _ _
   | exact ih4 _ _ _ _ _
   | exact ih5 _ _ _ _ _ _
   | exact impl_WeighSo.mono _ _ _ _ _
   | exact laws_sameInts.mono _ _ _
   | exact spec_CountsFor.mono _ _
   | exact spec_CountsOk.mono _ _
   | exact spec_DrawCountsFor.mono _ _
   | exact spec_DrawWeighSo.mono _ _
   | exact LeO.none _
   | refine LeO.ite ?_ ?_
   | refine LeO.bind ?_ (fun _ => ?_)
set_option maxHeartbeats 8000000 in
set_option maxRecDepth 100000 in
theorem laws_FnCountsFor.calls (k : Nat) (A0 : Option Addr) (c0 : Nat) (l0 : List Int) (A1 : Option Addr) (c1 : Nat) (l1 : List Int) (r : Bool) (w : World) (hr0 : Kd.C (Kd.int .u8) w A0 l0.length l0) (hc0 : l0.length ≤ c0) (hr1 : Kd.C (Kd.int .u8) w A1 l1.length l1) (hc1 : l1.length ≤ c1) (h : laws_FnCountsFor.f k l0 l1 = some r) :
  Calls Try.prog 4 #[.slice A0 l0.length c0,.slice A1 l1.length c1] w fun e w' => e = .returned (.bool r) ∧ Below w.heap.size w w':=by
 have hu29:=Try.underlying29
 have HR0:=Aside0.mk hr0
 have HC0:=Aside0.mk hc0;clear hr0 hc0
 have HR1:=Aside0.mk hr1
 have HC1:=Aside0.mk hc1;clear hr1 hc1;have HB:=Aside0.mk (Below.refl w.heap.size w)
 have H : (if (l0.length : Int) > 1048576 then (laws_FnCountsFor.j0 k l0 l1 true) else (laws_FnCountsFor.j0 k l0 l1 (decide ((l1.length : Int) > 1048576)))) = some r:=h;clear h
 have HC3:=Aside0.mk H;clear H
 go_enter Try.func4,Try.ntmps4
 go_upto_region 1 with (fail)
 go_cut [22] (fun v22 wc => ∃ (kq : Nat) (x22_2 : Bool),v22 = .bool x22_2 ∧ Aside0 (laws_FnCountsFor.j0 kq l0 l1 x22_2 = some r) ∧ Aside0 (kq ≤ k) ∧ Aside0 (Below w.heap.size w wc))
 case first =>
  have H:=HC3.out;clear HC3
  by_cases c4 : (l0.length : Int) > 1048576
  ·
   rw [if_pos c4] at H
   have c4b0 : decide (1048576 < (l0.length : Int)) = true:=decide_eq_true c4
   have c4b1 : decide (1048576 < l0.length) = true:=decide_eq_true (by omega);clear c4
   (first|rw [c4b0]|(simp only [i64_w,i32_w];rw [c4b0])|skip)
   have H':=Aside0.mk H;clear H
   go_wp2
   go_meet
   case rel => exact ⟨_,(true),(by first|rfl|(simp;done)|(simp [*];done)),H',⟨by first|omega|exact Nat.le_refl _⟩,⟨belU HB.out⟩⟩
  ·
   rw [if_neg c4] at H
   have c4b0 : decide (1048576 < (l0.length : Int)) = false:=decide_eq_false c4
   have c4b1 : decide (1048576 < l0.length) = false:=decide_eq_false (by omega);clear c4
   (first|rw [c4b0]|(simp only [i64_w,i32_w];rw [c4b0])|skip)
   have H':=Aside0.mk H;clear H
   go_wp2
   go_meet
   case rel => exact ⟨_,(decide ((l1.length : Int) > 1048576)),(by first|rfl|(simp;done)|(simp [*];done)),H',⟨by first|omega|exact Nat.le_refl _⟩,⟨belU HB.out⟩⟩
 case rest =>
  clear HC3
  try clear c1
  try clear p2
  try clear c4
  try clear c4b0
  try clear c4b1
  obtain ⟨kq,x22_2,rfl,HA,HJ2,HB⟩:=hcut
  cases kq with
  | zero => exact absurd HA.out (by simp [laws_FnCountsFor.j0])
  | succ kj2 =>
   have H:=HA.out;clear HA
   simp only [laws_FnCountsFor.j0] at H
   by_cases c5 : x22_2 = true
   ·
    subst c5
    have H1 : (some true) = some r:=by rw [if_pos rfl] at H;exact H
    clear H;have H:=H1;clear H1
    obtain rfl:=Option.some.inj H
    go_wp2
    go_ret
    exact ⟨by first|rfl|(simp [errW_none,errW_some] <;> rfl)|(simp [*,errW_none,errW_some] <;> rfl),belU HB.out⟩
   ·
    replace c5:=Bool.eq_false_iff.mpr c5;subst c5
    have H1 : ((spec_DrawCountsFor.f kj2 l0).bind fun t456 => ((impl_CountsFor.f t456).bind fun bt459 => ((spec_CountsFor.f kj2 t456).bind fun bt463 => ((laws_sameInts.f kj2 bt459.1 bt463.1).bind fun t467 => (if t467 = true then (laws_FnCountsFor.j1 kj2 l1 t456 bt459.1 bt459.2 (bt459.2 != bt463.2)) else (laws_FnCountsFor.j1 kj2 l1 t456 bt459.1 bt459.2 true)))))) = some r:=by rw [if_neg (show ¬ (false = true) by decide)] at H;exact H
    clear H;have H:=H1;clear H1
    replace H:=Option.bind_eq_some_iff.mp H
    obtain ⟨t456,A60,H⟩:=H
    replace H : ((impl_CountsFor.f t456).bind fun bt459 => ((spec_CountsFor.f kj2 t456).bind fun bt463 => ((laws_sameInts.f kj2 bt459.1 bt463.1).bind fun t467 => (if t467 = true then (laws_FnCountsFor.j1 kj2 l1 t456 bt459.1 bt459.2 (bt459.2 != bt463.2)) else (laws_FnCountsFor.j1 kj2 l1 t456 bt459.1 bt459.2 true))))) = some r:=H
    have A6:=Aside0.mk A60;clear A60
    replace H:=Option.bind_eq_some_iff.mp H
    obtain ⟨⟨t459,t460⟩,A70,H⟩:=H
    replace H : ((spec_CountsFor.f kj2 t456).bind fun bt463 => ((laws_sameInts.f kj2 t459 bt463.1).bind fun t467 => (if t467 = true then (laws_FnCountsFor.j1 kj2 l1 t456 t459 t460 (t460 != bt463.2)) else (laws_FnCountsFor.j1 kj2 l1 t456 t459 t460 true)))) = some r:=H
    have A7:=Aside0.mk A70;clear A70
    replace H:=Option.bind_eq_some_iff.mp H
    obtain ⟨⟨t463,t464⟩,A80,H⟩:=H
    replace H : ((laws_sameInts.f kj2 t459 t463).bind fun t467 => (if t467 = true then (laws_FnCountsFor.j1 kj2 l1 t456 t459 t460 (t460 != t464)) else (laws_FnCountsFor.j1 kj2 l1 t456 t459 t460 true))) = some r:=H
    have A8:=Aside0.mk A80;clear A80
    have HC9:=Aside0.mk H;clear H
    go_upto_region 6 with (first|((with_reducible refine gate_callee (f:=14) rfl ?_);refine goesL_ (some 24) rfl rfl Try.func14 (by kernel_rfl) rfl #[.slice A0 l0.length c0] rfl (by (try simp only [List.map_toArray,List.map_cons,List.map_nil]);first|done|rfl|(simp only [List.length_drop,List.length_take];rfl)) ?_;(with_reducible refine (spec_DrawCountsFor.calls kj2 _ _ l0 t456 _ ?side1 ?side2 A6.out).mono ?_);(case side1 => exact cU (Kd.C_below HR0.out HB.out));(case side2 => exact HC0.out);rintro e w10 ⟨v457,rfl,ho0,hb⟩;refine ⟨_,rfl,?_⟩;have n0_:=Aside0.mk (Kd.R_lower ho0 (below_size (belU HB.out)));have n1_:=Aside0.mk (below_step (belU HB.out) hb);clear HB;have HO458:=n0_;have HB:=n1_;clear n0_ n1_;(try clear hb);(try clear hb2);(try clear hk);(try clear hi);(try clear ho0);obtain ⟨Ao11,co11,eo11⟩:=Kd.R_slice HO458.out;subst eo11)|((with_reducible refine gate_callee (f:=15) rfl ?_);refine goesL_ (some 27) rfl rfl Try.func15 (by kernel_rfl) rfl #[.slice Ao11 t456.length co11] rfl (by (try simp only [List.map_toArray,List.map_cons,List.map_nil]);first|done|rfl|(simp only [List.length_drop,List.length_take];rfl)) ?_;(with_reducible refine (impl_CountsFor.calls _ _ t456 t459 t460 _ ?side1 ?side2 A7.out).mono ?_);(case side1 => exact cU (Kd.R_reads' HO458.out).2.2);(case side2 => exact (Kd.R_reads' HO458.out).2.1);rintro e w12 ⟨v461,rfl,ho0,hb⟩;refine ⟨_,rfl,?_⟩;have n0_:=Aside0.mk (Kd.R_below (rU HO458.out) hb);have n1_:=Aside0.mk (Kd.R_lower ho0 (below_size (belU HB.out)));have n2_:=Aside0.mk (below_step (belU HB.out) hb);clear HO458 HB;have HO458:=n0_;have HO462:=n1_;have HB:=n2_;clear n0_ n1_ n2_;(try clear hb);(try clear hb2);(try clear hk);(try clear hi);(try clear ho0))|((with_reducible refine gate_callee (f:=16) rfl ?_);refine goesL_ (some 32) rfl rfl Try.func16 (by kernel_rfl) rfl #[.slice Ao11 t456.length co11] rfl (by (try simp only [List.map_toArray,List.map_cons,List.map_nil]);first|done|rfl|(simp only [List.length_drop,List.length_take];rfl)) ?_;(with_reducible refine (spec_CountsFor.calls kj2 _ _ t456 t463 t464 _ ?side1 ?side2 A8.out).mono ?_);(case side1 => exact cU (Kd.R_reads' HO458.out).2.2);(case side2 => exact (Kd.R_reads' HO458.out).2.1);rintro e w13 ⟨v465,rfl,ho0,hb⟩;refine ⟨_,rfl,?_⟩;have n0_:=Aside0.mk (Kd.R_below (rU HO458.out) hb);have n1_:=Aside0.mk (Kd.R_elder' (rU HO462.out) (Kd.R_base ho0) hb);have n2_:=Aside0.mk (Kd.R_lower (Kd.R_new' ho0 (Kd.R_lt (rU HO462.out))) (below_size (belU HB.out)));have n3_:=Aside0.mk (below_step (belU HB.out) hb);clear HO458 HO462 HB;have HO458:=n0_;have HO462:=n1_;have HO466:=n2_;have HB:=n3_;clear n0_ n1_ n2_ n3_;(try clear hb);(try clear hb2);(try clear hk);(try clear hi);(try clear ho0)))
    (try simp only [Act.put,List.setIfInBounds_toArray,List.set_cons_zero,List.set_cons_succ])
    go_cut [43] (fun v43 wc => ∃ (kq : Nat) (x43_8 : Bool),v43 = .bool x43_8 ∧ Aside0 (laws_FnCountsFor.j1 kq l1 t456 t459 t460 x43_8 = some r) ∧ Aside0 (kq ≤ kj2) ∧ Aside0 (Kd.R k29 29 wc w.heap.size (fun _ => True) (.slice Ao11 t456.length co11) t456) ∧ Aside0 (Kd.R (Kd.int .i64) 3 wc w.heap.size (fun _ => True) v461 t459) ∧ Aside0 (Below w.heap.size w wc))
    case first =>
     have H:=HC9.out;clear HC9
     replace H:=Option.bind_eq_some_iff.mp H
     obtain ⟨t467,A140,H⟩:=H
     replace H : (if t467 = true then (laws_FnCountsFor.j1 kj2 l1 t456 t459 t460 (t460 != t464)) else (laws_FnCountsFor.j1 kj2 l1 t456 t459 t460 true)) = some r:=H
     have A14:=Aside0.mk A140;clear A140
     by_cases c15 : t467 = true
     ·
      subst c15
      have H1 : (laws_FnCountsFor.j1 kj2 l1 t456 t459 t460 (t460 != t464)) = some r:=by rw [if_pos rfl] at H;exact H
      clear H;have H:=H1;clear H1
      have H':=Aside0.mk H;clear H
      obtain ⟨Ao16,co16,eo16⟩:=Kd.R_slice HO462.out;subst eo16
      obtain ⟨Ao17,co17,eo17⟩:=Kd.R_slice HO466.out;subst eo17
      go_wp2_with (first|((with_reducible refine gate_callee (f:=17) rfl ?_);refine goesL_ (some 37) rfl rfl Try.func17 (by kernel_rfl) rfl #[.slice Ao16 t459.length co16,.slice Ao17 t463.length co17] rfl (by (try simp only [List.map_toArray,List.map_cons,List.map_nil]);first|done|rfl|(simp only [List.length_drop,List.length_take];rfl)) ?_;(with_reducible refine (laws_sameInts.calls kj2 _ _ t459 _ _ t463 true _ ?side1 ?side2 ?side3 ?side4 A14.out).mono ?_);(case side1 => exact cU (Kd.R_reads' HO462.out).2.2);(case side2 => exact (Kd.R_reads' HO462.out).2.1);(case side3 => exact cU (Kd.R_reads' HO466.out).2.2);(case side4 => exact (Kd.R_reads' HO466.out).2.1);rintro e w' ⟨rfl,⟨nd,rfl⟩⟩;refine ⟨_,rfl,?_⟩))
      go_meet
      case rel => exact ⟨_,((t460 != t464)),(by first|rfl|(simp;done)|(simp [*];done)),H',⟨by have:=HJ2.out;first|omega|exact Nat.le_refl _⟩,⟨rU HO458.out⟩,⟨by (with_reducible repeat (first|apply Kd.R_alloc|apply Kd.R_drewN|apply Kd.R_drew));exact Kd.R_mono HO462.out (fun _ hk => trivial)⟩,⟨belU HB.out⟩⟩
     ·
      replace c15:=Bool.eq_false_iff.mpr c15;subst c15
      have H1 : (laws_FnCountsFor.j1 kj2 l1 t456 t459 t460 true) = some r:=by rw [if_neg (show ¬ (false = true) by decide)] at H;exact H
      clear H;have H:=H1;clear H1
      have H':=Aside0.mk H;clear H
      obtain ⟨Ao18,co18,eo18⟩:=Kd.R_slice HO462.out;subst eo18
      obtain ⟨Ao19,co19,eo19⟩:=Kd.R_slice HO466.out;subst eo19
      go_wp2_with (first|((with_reducible refine gate_callee (f:=17) rfl ?_);refine goesL_ (some 37) rfl rfl Try.func17 (by kernel_rfl) rfl #[.slice Ao18 t459.length co18,.slice Ao19 t463.length co19] rfl (by (try simp only [List.map_toArray,List.map_cons,List.map_nil]);first|done|rfl|(simp only [List.length_drop,List.length_take];rfl)) ?_;(with_reducible refine (laws_sameInts.calls kj2 _ _ t459 _ _ t463 false _ ?side1 ?side2 ?side3 ?side4 A14.out).mono ?_);(case side1 => exact cU (Kd.R_reads' HO462.out).2.2);(case side2 => exact (Kd.R_reads' HO462.out).2.1);(case side3 => exact cU (Kd.R_reads' HO466.out).2.2);(case side4 => exact (Kd.R_reads' HO466.out).2.1);rintro e w' ⟨rfl,⟨nd,rfl⟩⟩;refine ⟨_,rfl,?_⟩))
      go_meet
      case rel => exact ⟨_,(true),(by first|rfl|(simp;done)|(simp [*];done)),H',⟨by have:=HJ2.out;first|omega|exact Nat.le_refl _⟩,⟨rU HO458.out⟩,⟨by (with_reducible repeat (first|apply Kd.R_alloc|apply Kd.R_drewN|apply Kd.R_drew));exact Kd.R_mono HO462.out (fun _ hk => trivial)⟩,⟨belU HB.out⟩⟩
    case rest =>
     clear HC9
     try clear c1
     try clear p2
     try clear c4
     try clear c4b0
     try clear c4b1
     try clear c5
     try clear c14
     try clear c15
     try clear c16
     try clear c17
     try clear p2
     obtain ⟨kq,x43_8,rfl,HA,HJ8,HO_5,HO_6,HB⟩:=hcut
     cases kq with
     | zero => exact absurd HA.out (by simp [laws_FnCountsFor.j1])
     | succ kj8 =>
      have H:=HA.out;clear HA
      simp only [laws_FnCountsFor.j1] at H
      by_cases c20 : x43_8 = true
      ·
       subst c20
       have H1 : (some false) = some r:=by rw [if_pos rfl] at H;exact H
       clear H;have H:=H1;clear H1
       obtain rfl:=Option.some.inj H
       go_wp2
       go_ret
       exact ⟨by first|rfl|(simp [errW_none,errW_some] <;> rfl)|(simp [*,errW_none,errW_some] <;> rfl),belU HB.out⟩
      ·
       replace c20:=Bool.eq_false_iff.mpr c20;subst c20
       have H1 : (laws_FnCountsFor.l0 kj8 l1 t456 t459 t460 0) = some r:=by rw [if_neg (show ¬ (false = true) by decide)] at H;exact H
       clear H;have H:=H1;clear H1
       have H':=Aside0.mk H;clear H
       go_wp2
       go_loopg [10] kj8 (fun kq v10 w' => ∃ (x10_3 : Int),v10 = .int .i64 x10_3 ∧ Aside0 (laws_FnCountsFor.l0 kq l1 t456 t459 t460 x10_3 = some r) ∧ Aside0 (kq ≤ kj8) ∧ Aside0 (Kd.R k29 29 w' w.heap.size (fun _ => True) (.slice Ao11 t456.length co11) t456) ∧ Aside0 (Kd.R (Kd.int .i64) 3 w' w.heap.size (fun _ => True) v461 t459) ∧ Aside0 (Below w.heap.size w w'))
       case atStart => exact ⟨(0),(by first|rfl|(simp;done)|(simp [*];done)),H',⟨Nat.le_refl _⟩,⟨rU HO_5.out⟩,⟨rU HO_6.out⟩,⟨belU HB.out⟩⟩
       case round =>
        clear H'
        try clear c1
        try clear c2
        try clear p2
        try clear c4
        try clear c4b0
        try clear c4b1
        try clear c5
        try clear c14
        try clear c15
        try clear c16
        try clear c17
        try clear c20
        try clear p2
        obtain ⟨x10_3,rfl,HA,HK3,HO_5,HO_6,HB⟩:=hrel
        cases gk with
        | zero => exact absurd HA.out (by simp [laws_FnCountsFor.l0])
        | succ k3 =>
         have H:=HA.out;clear HA
         simp only [laws_FnCountsFor.l0] at H
         have HC21:=Aside0.mk H;clear H
         go_upto_region 9 with (fail)
         go_cut [50] (fun v50 wc => ∃ (kq : Nat) (x50_20 : Bool),v50 = .bool x50_20 ∧ Aside0 (laws_FnCountsFor.j3 kq l1 t456 t459 t460 x10_3 x50_20 = some r) ∧ Aside0 (kq ≤ k3) ∧ Aside0 (Kd.R k29 29 wc w.heap.size (fun _ => True) (.slice Ao11 t456.length co11) t456) ∧ Aside0 (Kd.R (Kd.int .i64) 3 wc w.heap.size (fun _ => True) v461 t459) ∧ Aside0 (Below w.heap.size w wc))
         case first =>
          have H:=HC21.out;clear HC21
          by_cases c22 : x10_3 < (t456.length : Int)
          ·
           rw [if_pos c22] at H
           have c22b0 : decide (x10_3 < (t456.length : Int)) = true:=decide_eq_true c22;clear c22
           (first|rw [c22b0]|(simp only [i64_w,i32_w];rw [c22b0])|skip)
           have H':=Aside0.mk H;clear H
           go_wp2
           go_meet
           case rel => exact ⟨_,(t460),(by first|rfl|(simp;done)|(simp [*];done)),H',⟨by have:=HJ2.out;have:=HJ8.out;have:=HK3.out;first|omega|exact Nat.le_refl _⟩,⟨rU HO_5.out⟩,⟨rU HO_6.out⟩,⟨belU HB.out⟩⟩
          ·
           rw [if_neg c22] at H
           have c22b0 : decide (x10_3 < (t456.length : Int)) = false:=decide_eq_false c22;clear c22
           (first|rw [c22b0]|(simp only [i64_w,i32_w];rw [c22b0])|skip)
           have H':=Aside0.mk H;clear H
           go_wp2
           go_meet
           case rel => exact ⟨_,(false),(by first|rfl|(simp;done)|(simp [*];done)),H',⟨by have:=HJ2.out;have:=HJ8.out;have:=HK3.out;first|omega|exact Nat.le_refl _⟩,⟨rU HO_5.out⟩,⟨rU HO_6.out⟩,⟨belU HB.out⟩⟩
         case rest =>
          clear HC21
          try clear c1
          try clear c2
          try clear p2
          try clear c4
          try clear c4b0
          try clear c4b1
          try clear c5
          try clear c14
          try clear c15
          try clear c16
          try clear c17
          try clear c20
          try clear c22
          try clear c22b0
          try clear p2
          obtain ⟨kq,x50_20,rfl,HA,HJ20,HO_5,HO_6,HB⟩:=hcut
          cases kq with
          | zero => exact absurd HA.out (by simp [laws_FnCountsFor.j3])
          | succ kj20 =>
           have H:=HA.out;clear HA
           simp only [laws_FnCountsFor.j3] at H
           by_cases c23 : x50_20 = true
           ·
            subst c23
            have H1 : (if 0 ≤ x10_3 then (if x10_3 < (t456.length : Int) then ((impl_WeighSo.f kj20 t459 ((rd_T29 t456 x10_3).f0) ((rd_T29 t456 x10_3).f1) ((rd_T29 t456 x10_3).f2)).bind fun t469 => (if t469 = true then (laws_FnCountsFor.l0 kj20 l1 t456 t459 t460 (wrap64 (x10_3 + 1))) else (some false))) else (none)) else (none)) = some r:=by rw [if_pos rfl] at H;exact H
            clear H;have H:=H1;clear H1
            by_cases c24 : 0 ≤ x10_3
            ·
             rw [if_pos c24] at H
             have c24b0 : decide (0 ≤ x10_3) = true:=decide_eq_true c24;clear c24
             by_cases c25 : x10_3 < (t456.length : Int)
             ·
              rw [if_pos c25] at H
              have c25b0 : decide (x10_3 < (t456.length : Int)) = true:=decide_eq_true c25;clear c25
              replace H:=Option.bind_eq_some_iff.mp H
              obtain ⟨t469,A260,H⟩:=H
              replace H : (if t469 = true then (laws_FnCountsFor.l0 kj20 l1 t456 t459 t460 (wrap64 (x10_3 + 1))) else (some false)) = some r:=H
              have A26:=Aside0.mk A260;clear A260
              by_cases c27 : t469 = true
              ·
               subst c27
               have H1 : (laws_FnCountsFor.l0 kj20 l1 t456 t459 t460 (wrap64 (x10_3 + 1))) = some r:=by rw [if_pos rfl] at H;exact H
               clear H;have H:=H1;clear H1
               have H':=Aside0.mk H;clear H
               have p468 : 0 ≤ (x10_3 : Int):=of_decide_eq_true (by first|(with_reducible assumption)|assumption)
               have q468 : x10_3 < (t456.length : Int):=of_decide_eq_true (by first|(with_reducible assumption)|assumption)
               obtain ⟨ad468,e468,hx468_0,hx468_1,hx468_2⟩:=at_T29 (Kd.R_reads' HO_5.out).2.2 x10_3 p468 q468
               cases e468
               replace p468:=eq_true p468
               replace q468:=eq_true q468
               obtain ⟨Ao28,co28,eo28⟩:=Kd.R_slice HO_6.out;subst eo28
               go_wp2_with (first|((with_reducible refine gate_callee (f:=18) rfl ?_);refine goesL_ (some 58) rfl rfl Try.func18 (by kernel_rfl) rfl #[.slice Ao28 t459.length co28,.agg #[.int .i64 ((rd_T29 t456 x10_3).f0),.int .i64 ((rd_T29 t456 x10_3).f1),.int .i64 ((rd_T29 t456 x10_3).f2)]] rfl (by (try simp only [List.map_toArray,List.map_cons,List.map_nil]);first|done|rfl|(simp only [List.length_drop,List.length_take];rfl)) ?_;(with_reducible refine (impl_WeighSo.calls kj20 _ _ t459 ((rd_T29 t456 x10_3).f0) ((rd_T29 t456 x10_3).f1) ((rd_T29 t456 x10_3).f2) true _ ?side1 ?side2 A26.out).mono ?_);(case side1 => exact cU (Kd.R_reads' HO_6.out).2.2);(case side2 => exact (Kd.R_reads' HO_6.out).2.1);rintro e w29 ⟨rfl,hb⟩;refine ⟨_,rfl,?_⟩;have n0_:=Aside0.mk (Kd.R_below (rU HO_5.out) hb);have n1_:=Aside0.mk (Kd.R_below (rU HO_6.out) hb);have n2_:=Aside0.mk (below_step (belU HB.out) hb);clear HO_5 HO_6 HB;have HO_5:=n0_;have HO_6:=n1_;have HB:=n2_;clear n0_ n1_ n2_;(try clear hb);(try clear hb2);(try clear hk);(try clear hi)))
               go_roundg kj20
               case measure => have:=HJ2.out;have:=HJ8.out;have:=HK3.out;have:=HJ20.out;omega
               case rel => exact ⟨(wrap64 (x10_3 + 1)),(by first|rfl|(simp;done)|(simp [*];done)),H',⟨by have:=HJ2.out;have:=HJ8.out;have:=HK3.out;have:=HJ20.out;omega⟩,⟨rU HO_5.out⟩,⟨rU HO_6.out⟩,⟨belU HB.out⟩⟩
              ·
               replace c27:=Bool.eq_false_iff.mpr c27;subst c27
               have H1 : (some false) = some r:=by rw [if_neg (show ¬ (false = true) by decide)] at H;exact H
               clear H;have H:=H1;clear H1
               obtain rfl:=Option.some.inj H
               have p468 : 0 ≤ (x10_3 : Int):=of_decide_eq_true (by first|(with_reducible assumption)|assumption)
               have q468 : x10_3 < (t456.length : Int):=of_decide_eq_true (by first|(with_reducible assumption)|assumption)
               obtain ⟨ad468,e468,hx468_0,hx468_1,hx468_2⟩:=at_T29 (Kd.R_reads' HO_5.out).2.2 x10_3 p468 q468
               cases e468
               replace p468:=eq_true p468
               replace q468:=eq_true q468
               obtain ⟨Ao30,co30,eo30⟩:=Kd.R_slice HO_6.out;subst eo30
               go_wp2_with (first|((with_reducible refine gate_callee (f:=18) rfl ?_);refine goesL_ (some 58) rfl rfl Try.func18 (by kernel_rfl) rfl #[.slice Ao30 t459.length co30,.agg #[.int .i64 ((rd_T29 t456 x10_3).f0),.int .i64 ((rd_T29 t456 x10_3).f1),.int .i64 ((rd_T29 t456 x10_3).f2)]] rfl (by (try simp only [List.map_toArray,List.map_cons,List.map_nil]);first|done|rfl|(simp only [List.length_drop,List.length_take];rfl)) ?_;(with_reducible refine (impl_WeighSo.calls kj20 _ _ t459 ((rd_T29 t456 x10_3).f0) ((rd_T29 t456 x10_3).f1) ((rd_T29 t456 x10_3).f2) false _ ?side1 ?side2 A26.out).mono ?_);(case side1 => exact cU (Kd.R_reads' HO_6.out).2.2);(case side2 => exact (Kd.R_reads' HO_6.out).2.1);rintro e w31 ⟨rfl,hb⟩;refine ⟨_,rfl,?_⟩;have n0_:=Aside0.mk (Kd.R_below (rU HO_5.out) hb);have n1_:=Aside0.mk (Kd.R_below (rU HO_6.out) hb);have n2_:=Aside0.mk (below_step (belU HB.out) hb);clear HO_5 HO_6 HB;have HO_5:=n0_;have HO_6:=n1_;have HB:=n2_;clear n0_ n1_ n2_;(try clear hb);(try clear hb2);(try clear hk);(try clear hi)))
               go_ret
               exact ⟨by first|rfl|(simp [errW_none,errW_some] <;> rfl)|(simp [*,errW_none,errW_some] <;> rfl),belU HB.out⟩
             ·
              rw [if_neg c25] at H
              exact absurd H (by simp)
            ·
             rw [if_neg c24] at H
             exact absurd H (by simp)
           ·
            replace c23:=Bool.eq_false_iff.mpr c23;subst c23
            have H1 : ((spec_DrawWeighSo.f kj20 l1).bind fun bt470 => ((spec_CountsOk.f kj20 bt470.1).bind fun t477 => (if t477 = true then (laws_FnCountsFor.j4 kj20 t456 t459 t460 bt470.1 (decide ((t456.length : Int) ≤ 6))) else (laws_FnCountsFor.j4 kj20 t456 t459 t460 bt470.1 false)))) = some r:=by rw [if_neg (show ¬ (false = true) by decide)] at H;exact H
            clear H;have H:=H1;clear H1
            replace H:=Option.bind_eq_some_iff.mp H
            obtain ⟨⟨t470,t473,t474,t475⟩,A320,H⟩:=H
            replace H : ((spec_CountsOk.f kj20 t470).bind fun t477 => (if t477 = true then (laws_FnCountsFor.j4 kj20 t456 t459 t460 t470 (decide ((t456.length : Int) ≤ 6))) else (laws_FnCountsFor.j4 kj20 t456 t459 t460 t470 false))) = some r:=H
            have A32:=Aside0.mk A320;clear A320
            have HC33:=Aside0.mk H;clear H
            go_upto_region 14 with (first|((with_reducible refine gate_callee (f:=19) rfl ?_);refine goesL_ (some 62) rfl rfl Try.func19 (by kernel_rfl) rfl #[.slice A1 l1.length c1] rfl (by (try simp only [List.map_toArray,List.map_cons,List.map_nil]);first|done|rfl|(simp only [List.length_drop,List.length_take];rfl)) ?_;(with_reducible refine (spec_DrawWeighSo.calls kj20 _ _ l1 t470 t473 t474 t475 _ ?side1 ?side2 A32.out).mono ?_);(case side1 => exact cU (Kd.C_below HR1.out HB.out));(case side2 => exact HC1.out);rintro e w34 ⟨v471,rfl,ho0,hb⟩;refine ⟨_,rfl,?_⟩;have n0_:=Aside0.mk (Kd.R_below (rU HO_5.out) hb);have n1_:=Aside0.mk (Kd.R_elder' (rU HO_6.out) (Kd.R_base ho0) hb);have n2_:=Aside0.mk (Kd.R_lower (Kd.R_new' ho0 (Kd.R_lt (rU HO_6.out))) (below_size (belU HB.out)));have n3_:=Aside0.mk (below_step (belU HB.out) hb);clear HO_5 HO_6 HB;have HO_5:=n0_;have HO_6:=n1_;have HO472:=n2_;have HB:=n3_;clear n0_ n1_ n2_ n3_;(try clear hb);(try clear hb2);(try clear hk);(try clear hi);(try clear ho0))|((with_reducible refine gate_dst (N:=12) rfl ?_);(try (refine gate_guard (by rfl) ?_;dsimp only));refine box_event ?hg (N:=12) ?hd (cs:=#[.int .i64 0,.int .i64 0,.int .i64 0]) (t:=29) ?hr ?_;(case hd => rfl);(case hg => rfl);(case hr => first|(go_simp;done)|(go_simp;rfl));intro gb476 hg w35 hbox hb;have n0_:=Aside0.mk (Kd.R_below (Kd.R_elderB (rU HO_5.out) gb476 (Nat.le_of_eq hg.symm)) hb);have n1_:=Aside0.mk (Kd.R_below (rU HO_6.out) hb);have n2_:=Aside0.mk (Kd.R_below (rU HO472.out) hb);have n3_:=Aside0.mk (below_step (belU HB.out) hb);have n4_:=Aside0.mk (hbox);have n5_:=Aside0.mk ((by rw [hg];exact (below_size (belU HB.out)) : w.heap.size ≤ gb476));have n6_:=Aside0.mk ((by rw [hg];exact (below_size (belU HB.out)) : w.heap.size ≤ gb476));clear HO_5 HO_6 HO472 HB;have HO_5:=n0_;have HO_6:=n1_;have HO472:=n2_;have HB:=n3_;have BK476:=n4_;have GW476:=n5_;have GE476:=n6_;clear n0_ n1_ n2_ n3_ n4_ n5_ n6_ hb hbox hg;have hcz36_0 : w35.cell? ⟨gb476,0,none⟩ = some (.int .i64 0):=(blk_cell BK476.out 0).trans rfl;have hcz36_1 : w35.cell? ⟨gb476,1,none⟩ = some (.int .i64 0):=(blk_cell BK476.out 1).trans rfl;have hcz36_2 : w35.cell? ⟨gb476,2,none⟩ = some (.int .i64 0):=(blk_cell BK476.out 2).trans rfl;have hfz36_0:=blk_frozen BK476.out 0;have hfz36_1:=blk_frozen BK476.out 1;have hfz36_2:=blk_frozen BK476.out 2))
            (try simp only [Act.put,List.setIfInBounds_toArray,List.set_cons_zero,List.set_cons_succ])
            go_cut [13] (fun v13 wc => ∃ (kq : Nat) (x13_32 : Bool),v13 = .bool x13_32 ∧ Aside0 (laws_FnCountsFor.j4 kq t456 t459 t460 t470 x13_32 = some r) ∧ Aside0 (kq ≤ kj20) ∧ Aside0 (Kd.R k29 29 wc w.heap.size (fun k_ => k_ ≠ gb476) (.slice Ao11 t456.length co11) t456) ∧ Aside0 (Kd.R (Kd.int .i64) 3 wc w.heap.size (fun k_ => some k_ ≠ (v471 : Value).ownBlock) v461 t459) ∧ Aside0 (Kd.R (Kd.int .i64) 3 wc w.heap.size (fun k_ => some k_ ≠ (v461 : Value).ownBlock) v471 t470) ∧ Aside0 (wc.heap[gb476]? = some (.cells #[.int .i64 t473,.int .i64 t474,.int .i64 t475] 29 (0,0))) ∧ Aside0 (Below w.heap.size w wc))
            case first =>
             have H:=HC33.out;clear HC33
             replace H:=Option.bind_eq_some_iff.mp H
             obtain ⟨t477,A370,H⟩:=H
             replace H : (if t477 = true then (laws_FnCountsFor.j4 kj20 t456 t459 t460 t470 (decide ((t456.length : Int) ≤ 6))) else (laws_FnCountsFor.j4 kj20 t456 t459 t460 t470 false)) = some r:=H
             have A37:=Aside0.mk A370;clear A370
             by_cases c38 : t477 = true
             ·
              subst c38
              have H1 : (laws_FnCountsFor.j4 kj20 t456 t459 t460 t470 (decide ((t456.length : Int) ≤ 6))) = some r:=by rw [if_pos rfl] at H;exact H
              clear H;have H:=H1;clear H1
              have H':=Aside0.mk H;clear H
              obtain ⟨Ao39,co39,eo39⟩:=Kd.R_slice HO472.out;subst eo39
              go_wp2_with (first|((with_reducible refine gate_callee (f:=20) rfl ?_);refine goesL_ (some 66) rfl rfl Try.func20 (by kernel_rfl) rfl #[.slice Ao39 t470.length co39] rfl (by (try simp only [List.map_toArray,List.map_cons,List.map_nil]);first|done|rfl|(simp only [List.length_drop,List.length_take];rfl)) ?_;(with_reducible refine (spec_CountsOk.calls kj20 _ _ t470 true _ ?side1 ?side2 A37.out).mono ?_);(case side1 => refine (Kd.R_reads' (e:=3) (base:=w.heap.size) (ok:=fun k_ => (True ∧ some k_ ≠ (v461 : Value).ownBlock)) (n:=t470.length) (c:=co39) ?_).2.2;exact (by (with_reducible repeat (first|apply Kd.R_alloc|apply Kd.R_drewN|apply Kd.R_drew));exact (Kd.R_mono (Kd.R_far (p:=⟨gb476,2,none⟩) (Kd.R_far (p:=⟨gb476,1,none⟩) (Kd.R_far (p:=⟨gb476,0,none⟩) (Kd.R_types HO472.out BK476.out (by decide)) (fun _ hk => hk.2) (.int .i64 t473)) (fun _ hk => hk.2) (.int .i64 t474)) (fun _ hk => hk.2) (.int .i64 t475)) (fun _ h_ => h_.1))));(case side2 => exact (Kd.R_reads' HO472.out).2.1);rintro e w' ⟨rfl,⟨nd,rfl⟩⟩;refine ⟨_,rfl,?_⟩))
              go_meet
              case rel => exact ⟨_,(decide ((t456.length : Int) ≤ 6)),(by first|rfl|(simp;done)|(simp [*];done)),H',⟨by have:=HJ2.out;have:=HJ8.out;have:=HK3.out;have:=HJ20.out;first|omega|exact Nat.le_refl _⟩,⟨by (with_reducible repeat (first|apply Kd.R_alloc|apply Kd.R_drewN|apply Kd.R_drew));exact Kd.R_mono (Kd.R_far (p:=⟨gb476,2,none⟩) (Kd.R_far (p:=⟨gb476,1,none⟩) (Kd.R_far (p:=⟨gb476,0,none⟩) (Kd.R_mono HO_5.out (fun k_ hk => (⟨hk,hk.2⟩ : _ ∧ k_ ≠ gb476))) (fun _ hk => hk.2) (.int .i64 t473)) (fun _ hk => hk.2) (.int .i64 t474)) (fun _ hk => hk.2) (.int .i64 t475)) (fun _ hk => hk.1.2)⟩,⟨by (with_reducible repeat (first|apply Kd.R_alloc|apply Kd.R_drewN|apply Kd.R_drew));exact Kd.R_mono (Kd.R_far (p:=⟨gb476,2,none⟩) (Kd.R_far (p:=⟨gb476,1,none⟩) (Kd.R_far (p:=⟨gb476,0,none⟩) (Kd.R_types HO_6.out BK476.out (by decide)) (fun _ hk => hk.2) (.int .i64 t473)) (fun _ hk => hk.2) (.int .i64 t474)) (fun _ hk => hk.2) (.int .i64 t475)) (fun _ hk => hk.1.2)⟩,⟨by (with_reducible repeat (first|apply Kd.R_alloc|apply Kd.R_drewN|apply Kd.R_drew));exact Kd.R_mono (Kd.R_far (p:=⟨gb476,2,none⟩) (Kd.R_far (p:=⟨gb476,1,none⟩) (Kd.R_far (p:=⟨gb476,0,none⟩) (Kd.R_types HO472.out BK476.out (by decide)) (fun _ hk => hk.2) (.int .i64 t473)) (fun _ hk => hk.2) (.int .i64 t474)) (fun _ hk => hk.2) (.int .i64 t475)) (fun _ hk => hk.1.2)⟩,⟨by (with_reducible repeat (first|refine blk_drewN ?_ _|refine blk_drew ?_|refine blk_alloc ?_ _));refine blk_put (cs:=#[.int .i64 t473,.int .i64 t474,.int .i64 0]) ?_ 2 _ rfl;(with_reducible repeat (first|refine blk_drewN ?_ _|refine blk_drew ?_|refine blk_alloc ?_ _));refine blk_put (cs:=#[.int .i64 t473,.int .i64 0,.int .i64 0]) ?_ 1 _ rfl;(with_reducible repeat (first|refine blk_drewN ?_ _|refine blk_drew ?_|refine blk_alloc ?_ _));refine blk_put (cs:=#[.int .i64 0,.int .i64 0,.int .i64 0]) ?_ 0 _ rfl;(with_reducible repeat (first|refine blk_drewN ?_ _|refine blk_drew ?_|refine blk_alloc ?_ _));exact BK476.out⟩,⟨by repeat (first|(with_reducible first|exact HB.out|apply below_alloc|apply pw_below_drewN|apply below_drew1|refine below_set ?_ GE476.out)|exact HB.out)⟩⟩
             ·
              replace c38:=Bool.eq_false_iff.mpr c38;subst c38
              have H1 : (laws_FnCountsFor.j4 kj20 t456 t459 t460 t470 false) = some r:=by rw [if_neg (show ¬ (false = true) by decide)] at H;exact H
              clear H;have H:=H1;clear H1
              have H':=Aside0.mk H;clear H
              obtain ⟨Ao40,co40,eo40⟩:=Kd.R_slice HO472.out;subst eo40
              go_wp2_with (first|((with_reducible refine gate_callee (f:=20) rfl ?_);refine goesL_ (some 66) rfl rfl Try.func20 (by kernel_rfl) rfl #[.slice Ao40 t470.length co40] rfl (by (try simp only [List.map_toArray,List.map_cons,List.map_nil]);first|done|rfl|(simp only [List.length_drop,List.length_take];rfl)) ?_;(with_reducible refine (spec_CountsOk.calls kj20 _ _ t470 false _ ?side1 ?side2 A37.out).mono ?_);(case side1 => refine (Kd.R_reads' (e:=3) (base:=w.heap.size) (ok:=fun k_ => (True ∧ some k_ ≠ (v461 : Value).ownBlock)) (n:=t470.length) (c:=co40) ?_).2.2;exact (by (with_reducible repeat (first|apply Kd.R_alloc|apply Kd.R_drewN|apply Kd.R_drew));exact (Kd.R_mono (Kd.R_far (p:=⟨gb476,2,none⟩) (Kd.R_far (p:=⟨gb476,1,none⟩) (Kd.R_far (p:=⟨gb476,0,none⟩) (Kd.R_types HO472.out BK476.out (by decide)) (fun _ hk => hk.2) (.int .i64 t473)) (fun _ hk => hk.2) (.int .i64 t474)) (fun _ hk => hk.2) (.int .i64 t475)) (fun _ h_ => h_.1))));(case side2 => exact (Kd.R_reads' HO472.out).2.1);rintro e w' ⟨rfl,⟨nd,rfl⟩⟩;refine ⟨_,rfl,?_⟩))
              go_meet
              case rel => exact ⟨_,(false),(by first|rfl|(simp;done)|(simp [*];done)),H',⟨by have:=HJ2.out;have:=HJ8.out;have:=HK3.out;have:=HJ20.out;first|omega|exact Nat.le_refl _⟩,⟨by (with_reducible repeat (first|apply Kd.R_alloc|apply Kd.R_drewN|apply Kd.R_drew));exact Kd.R_mono (Kd.R_far (p:=⟨gb476,2,none⟩) (Kd.R_far (p:=⟨gb476,1,none⟩) (Kd.R_far (p:=⟨gb476,0,none⟩) (Kd.R_mono HO_5.out (fun k_ hk => (⟨hk,hk.2⟩ : _ ∧ k_ ≠ gb476))) (fun _ hk => hk.2) (.int .i64 t473)) (fun _ hk => hk.2) (.int .i64 t474)) (fun _ hk => hk.2) (.int .i64 t475)) (fun _ hk => hk.1.2)⟩,⟨by (with_reducible repeat (first|apply Kd.R_alloc|apply Kd.R_drewN|apply Kd.R_drew));exact Kd.R_mono (Kd.R_far (p:=⟨gb476,2,none⟩) (Kd.R_far (p:=⟨gb476,1,none⟩) (Kd.R_far (p:=⟨gb476,0,none⟩) (Kd.R_types HO_6.out BK476.out (by decide)) (fun _ hk => hk.2) (.int .i64 t473)) (fun _ hk => hk.2) (.int .i64 t474)) (fun _ hk => hk.2) (.int .i64 t475)) (fun _ hk => hk.1.2)⟩,⟨by (with_reducible repeat (first|apply Kd.R_alloc|apply Kd.R_drewN|apply Kd.R_drew));exact Kd.R_mono (Kd.R_far (p:=⟨gb476,2,none⟩) (Kd.R_far (p:=⟨gb476,1,none⟩) (Kd.R_far (p:=⟨gb476,0,none⟩) (Kd.R_types HO472.out BK476.out (by decide)) (fun _ hk => hk.2) (.int .i64 t473)) (fun _ hk => hk.2) (.int .i64 t474)) (fun _ hk => hk.2) (.int .i64 t475)) (fun _ hk => hk.1.2)⟩,⟨by (with_reducible repeat (first|refine blk_drewN ?_ _|refine blk_drew ?_|refine blk_alloc ?_ _));refine blk_put (cs:=#[.int .i64 t473,.int .i64 t474,.int .i64 0]) ?_ 2 _ rfl;(with_reducible repeat (first|refine blk_drewN ?_ _|refine blk_drew ?_|refine blk_alloc ?_ _));refine blk_put (cs:=#[.int .i64 t473,.int .i64 0,.int .i64 0]) ?_ 1 _ rfl;(with_reducible repeat (first|refine blk_drewN ?_ _|refine blk_drew ?_|refine blk_alloc ?_ _));refine blk_put (cs:=#[.int .i64 0,.int .i64 0,.int .i64 0]) ?_ 0 _ rfl;(with_reducible repeat (first|refine blk_drewN ?_ _|refine blk_drew ?_|refine blk_alloc ?_ _));exact BK476.out⟩,⟨by repeat (first|(with_reducible first|exact HB.out|apply below_alloc|apply pw_below_drewN|apply below_drew1|refine below_set ?_ GE476.out)|exact HB.out)⟩⟩
            case rest =>
             clear HC33
             try clear c1
             try clear c2
             try clear p2
             try clear c3
             try clear c4
             try clear c4b0
             try clear c4b1
             try clear p4
             try clear q4
             try clear hx4
             try clear c5
             try clear p6
             try clear c14
             try clear c15
             try clear c16
             try clear c17
             try clear c18
             try clear c19
             try clear c20
             try clear c22
             try clear c22b0
             try clear c23
             try clear c24
             try clear c24b0
             try clear c25
             try clear c25b0
             try clear c27
             try clear c38
             try clear hcz36_0
             try clear hcz36_1
             try clear hcz36_2
             try clear hfz36_0
             try clear hfz36_1
             try clear hfz36_2
             try clear hx468_0
             try clear hx468_1
             try clear hx468_2
             try clear p2
             try clear p468
             try clear q468
             obtain ⟨kq,x13_32,rfl,HA,HJ32,HO_5,HO_6,HO_11,BK476,HB⟩:=hcut
             cases kq with
             | zero => exact absurd HA.out (by simp [laws_FnCountsFor.j4])
             | succ kj32 =>
              have H:=HA.out;clear HA
              simp only [laws_FnCountsFor.j4] at H
              have H':=Aside0.mk H;clear H
              go_wp2
              go_loopg [13,14] kj32 (fun kq v13 v14 w' => ∃ (x13_6 : Bool) (x14_6 : Int),v13 = .bool x13_6 ∧ v14 = .int .i64 x14_6 ∧ Aside0 (laws_FnCountsFor.l1 kq t456 t459 t460 t470 x13_6 x14_6 = some r) ∧ Aside0 (kq ≤ kj32) ∧ Aside0 (Kd.R k29 29 w' w.heap.size (fun k_ => k_ ≠ gb476) (.slice Ao11 t456.length co11) t456) ∧ Aside0 (Kd.R (Kd.int .i64) 3 w' w.heap.size (fun k_ => some k_ ≠ (v471 : Value).ownBlock) v461 t459) ∧ Aside0 (Kd.R (Kd.int .i64) 3 w' w.heap.size (fun k_ => some k_ ≠ (v461 : Value).ownBlock) v471 t470) ∧ Aside0 (w'.heap[gb476]? = some (.cells #[.int .i64 t473,.int .i64 t474,.int .i64 t475] 29 (0,0))) ∧ Aside0 (Below w.heap.size w w'))
              case atStart => exact ⟨(x13_32),(0),(by first|rfl|(simp;done)|(simp [*];done)),(by first|rfl|(simp;done)|(simp [*];done)),H',⟨Nat.le_refl _⟩,⟨rU HO_5.out⟩,⟨rU HO_6.out⟩,⟨rU HO_11.out⟩,⟨blkU BK476.out⟩,⟨by repeat (first|(with_reducible first|exact HB.out|apply below_alloc|apply pw_below_drewN|apply below_drew1|refine below_set ?_ GE476.out)|exact HB.out)⟩⟩
              case round =>
               clear H'
               try clear c1
               try clear c2
               try clear p2
               try clear c3
               try clear c4
               try clear c4b0
               try clear c4b1
               try clear p4
               try clear q4
               try clear hx4
               try clear c5
               try clear p6
               try clear c14
               try clear c15
               try clear c16
               try clear c17
               try clear c18
               try clear c19
               try clear c20
               try clear c22
               try clear c22b0
               try clear c23
               try clear c24
               try clear c24b0
               try clear c25
               try clear c25b0
               try clear c27
               try clear c38
               try clear hcz36_0
               try clear hcz36_1
               try clear hcz36_2
               try clear hfz36_0
               try clear hfz36_1
               try clear hfz36_2
               try clear hx468_0
               try clear hx468_1
               try clear hx468_2
               try clear p2
               try clear p4
               try clear p468
               try clear p6
               try clear q4
               try clear q468
               obtain ⟨x13_6,x14_6,rfl,rfl,HA,HK6,HO_5,HO_6,HO_11,BK476,HB⟩:=hrel
               cases gk with
               | zero => exact absurd HA.out (by simp [laws_FnCountsFor.l1])
               | succ k6 =>
                have H:=HA.out;clear HA
                simp only [laws_FnCountsFor.l1] at H
                by_cases c41 : x14_6 < (t456.length : Int)
                ·
                 rw [if_pos c41] at H
                 have c41b0 : decide (x14_6 < (t456.length : Int)) = true:=decide_eq_true c41;clear c41
                 by_cases c42 : x13_6 = true
                 ·
                  subst c42
                  have H1 : (if 0 ≤ x14_6 then ((impl_WeighSo.f k6 t470 ((rd_T29 t456 x14_6).f0) ((rd_T29 t456 x14_6).f1) ((rd_T29 t456 x14_6).f2)).bind fun t479 => (laws_FnCountsFor.l1 k6 t456 t459 t460 t470 t479 (wrap64 (x14_6 + 1)))) else (none)) = some r:=by rw [if_pos rfl] at H;exact H
                  clear H;have H:=H1;clear H1
                  by_cases c43 : 0 ≤ x14_6
                  ·
                   rw [if_pos c43] at H
                   have c43b0 : decide (0 ≤ x14_6) = true:=decide_eq_true c43;clear c43
                   replace H:=Option.bind_eq_some_iff.mp H
                   obtain ⟨t479,A440,H⟩:=H
                   replace H : (laws_FnCountsFor.l1 k6 t456 t459 t460 t470 t479 (wrap64 (x14_6 + 1))) = some r:=H
                   have A44:=Aside0.mk A440;clear A440
                   have H':=Aside0.mk H;clear H
                   have p478 : 0 ≤ (x14_6 : Int):=of_decide_eq_true (by first|(with_reducible assumption)|assumption)
                   have q478 : x14_6 < (t456.length : Int):=of_decide_eq_true (by first|(with_reducible assumption)|assumption)
                   obtain ⟨ad478,e478,hx478_0,hx478_1,hx478_2⟩:=at_T29 (Kd.R_reads' HO_5.out).2.2 x14_6 p478 q478
                   cases e478
                   replace p478:=eq_true p478
                   replace q478:=eq_true q478
                   obtain ⟨Ao45,co45,eo45⟩:=Kd.R_slice HO_11.out;subst eo45
                   go_wp2_with (first|(go_at_call 18;(with_reducible refine (impl_WeighSo.calls k6 _ _ t470 ((rd_T29 t456 x14_6).f0) ((rd_T29 t456 x14_6).f1) ((rd_T29 t456 x14_6).f2) t479 _ ?side1 ?side2 A44.out).mono ?_);(case side1 => exact cU (Kd.R_reads' HO_11.out).2.2);(case side2 => exact (Kd.R_reads' HO_11.out).2.1);rintro e w46 ⟨rfl,hb⟩;have n0_:=Aside0.mk (Kd.R_below (rU HO_5.out) hb);have n1_:=Aside0.mk (Kd.R_below (rU HO_6.out) hb);have n2_:=Aside0.mk (Kd.R_below (rU HO_11.out) hb);have n3_:=Aside0.mk (blk_below (g:=gb476) (o:=.cells #[.int .i64 t473,.int .i64 t474,.int .i64 t475] 29 (0,0)) (blkU BK476.out) hb);have n4_:=Aside0.mk (below_step (by repeat (first|(with_reducible first|exact HB.out|apply below_alloc|apply pw_below_drewN|apply below_drew1|refine below_set ?_ GE476.out)|exact HB.out)) hb);clear HO_5 HO_6 HO_11 BK476 HB;have HO_5:=n0_;have HO_6:=n1_;have HO_11:=n2_;have BK476:=n3_;have HB:=n4_;clear n0_ n1_ n2_ n3_ n4_;(try clear hb);(try clear hb2);(try clear hk);(try clear hi)))
                   go_roundg k6
                   case measure => have:=HJ2.out;have:=HJ8.out;have:=HK3.out;have:=HJ20.out;have:=HJ32.out;have:=HK6.out;omega
                   case rel => exact ⟨(t479),(wrap64 (x14_6 + 1)),(by first|rfl|(simp;done)|(simp [*];done)),(by first|rfl|(simp;done)|(simp [*];done)),H',⟨by have:=HJ2.out;have:=HJ8.out;have:=HK3.out;have:=HJ20.out;have:=HJ32.out;have:=HK6.out;omega⟩,⟨rU HO_5.out⟩,⟨rU HO_6.out⟩,⟨rU HO_11.out⟩,⟨blkU BK476.out⟩,⟨by repeat (first|(with_reducible first|exact HB.out|apply below_alloc|apply pw_below_drewN|apply below_drew1|refine below_set ?_ GE476.out)|exact HB.out)⟩⟩
                  ·
                   rw [if_neg c43] at H
                   exact absurd H (by simp)
                 ·
                  replace c42:=Bool.eq_false_iff.mpr c42;subst c42
                  have H1 : (laws_FnCountsFor.l1 k6 t456 t459 t460 t470 false (wrap64 (x14_6 + 1))) = some r:=by rw [if_neg (show ¬ (false = true) by decide)] at H;exact H
                  clear H;have H:=H1;clear H1
                  have H':=Aside0.mk H;clear H
                  go_wp2
                  go_roundg k6
                  case measure => have:=HJ2.out;have:=HJ8.out;have:=HK3.out;have:=HJ20.out;have:=HJ32.out;have:=HK6.out;omega
                  case rel => exact ⟨(false),(wrap64 (x14_6 + 1)),(by first|rfl|(simp;done)|(simp [*];done)),(by first|rfl|(simp;done)|(simp [*];done)),H',⟨by have:=HJ2.out;have:=HJ8.out;have:=HK3.out;have:=HJ20.out;have:=HJ32.out;have:=HK6.out;omega⟩,⟨rU HO_5.out⟩,⟨rU HO_6.out⟩,⟨rU HO_11.out⟩,⟨blkU BK476.out⟩,⟨by repeat (first|(with_reducible first|exact HB.out|apply below_alloc|apply pw_below_drewN|apply below_drew1|refine below_set ?_ GE476.out)|exact HB.out)⟩⟩
                ·
                 rw [if_neg c41] at H
                 have c41b0 : decide (x14_6 < (t456.length : Int)) = false:=decide_eq_false c41;clear c41
                 by_cases c47 : x13_6 = true
                 ·
                  subst c47
                  have H1 : (if t460 = true then ((laws_alive.f).bind fun t480 => (some t480)) else (some false)) = some r:=by rw [if_pos rfl] at H;exact H
                  clear H;have H:=H1;clear H1
                  by_cases c48 : t460 = true
                  ·
                   subst c48
                   have H1 : ((laws_alive.f).bind fun t480 => (some t480)) = some r:=by rw [if_pos rfl] at H;exact H
                   clear H;have H:=H1;clear H1
                   replace H:=Option.bind_eq_some_iff.mp H
                   obtain ⟨t480,A490,H⟩:=H
                   replace H : (some t480) = some r:=H
                   have A49:=Aside0.mk A490;clear A490
                   obtain rfl:=Option.some.inj H
                   go_wp2_with (first|(go_at_call 21;(with_reducible refine (laws_alive.calls  t480 _ A49.out).mono ?_);rintro e w' ⟨rfl,⟨nd,rfl⟩⟩))
                   go_ret
                   exact ⟨by first|rfl|(simp [errW_none,errW_some] <;> rfl)|(simp [*,errW_none,errW_some] <;> rfl),by repeat (first|(with_reducible first|exact HB.out|apply below_alloc|apply pw_below_drewN|apply below_drew1|refine below_set ?_ GE476.out)|exact HB.out)⟩
                  ·
                   replace c48:=Bool.eq_false_iff.mpr c48;subst c48
                   have H1 : (some false) = some r:=by rw [if_neg (show ¬ (false = true) by decide)] at H;exact H
                   clear H;have H:=H1;clear H1
                   obtain rfl:=Option.some.inj H
                   go_wp2
                   go_ret
                   exact ⟨by first|rfl|(simp [errW_none,errW_some] <;> rfl)|(simp [*,errW_none,errW_some] <;> rfl),by repeat (first|(with_reducible first|exact HB.out|apply below_alloc|apply pw_below_drewN|apply below_drew1|refine below_set ?_ GE476.out)|exact HB.out)⟩
                 ·
                  replace c47:=Bool.eq_false_iff.mpr c47;subst c47
                  have H1 : (if t460 = true then ((laws_alive.f).bind fun t481 => (some t481)) else (if (t459.length : Int) = 0 then ((laws_alive.f).bind fun t482 => (some t482)) else (some false))) = some r:=by rw [if_neg (show ¬ (false = true) by decide)] at H;exact H
                  clear H;have H:=H1;clear H1
                  by_cases c50 : t460 = true
                  ·
                   subst c50
                   have H1 : ((laws_alive.f).bind fun t481 => (some t481)) = some r:=by rw [if_pos rfl] at H;exact H
                   clear H;have H:=H1;clear H1
                   replace H:=Option.bind_eq_some_iff.mp H
                   obtain ⟨t481,A510,H⟩:=H
                   replace H : (some t481) = some r:=H
                   have A51:=Aside0.mk A510;clear A510
                   obtain rfl:=Option.some.inj H
                   go_wp2_with (first|(go_at_call 21;(with_reducible refine (laws_alive.calls  t481 _ A51.out).mono ?_);rintro e w' ⟨rfl,⟨nd,rfl⟩⟩))
                   go_ret
                   exact ⟨by first|rfl|(simp [errW_none,errW_some] <;> rfl)|(simp [*,errW_none,errW_some] <;> rfl),by repeat (first|(with_reducible first|exact HB.out|apply below_alloc|apply pw_below_drewN|apply below_drew1|refine below_set ?_ GE476.out)|exact HB.out)⟩
                  ·
                   replace c50:=Bool.eq_false_iff.mpr c50;subst c50
                   have H1 : (if (t459.length : Int) = 0 then ((laws_alive.f).bind fun t482 => (some t482)) else (some false)) = some r:=by rw [if_neg (show ¬ (false = true) by decide)] at H;exact H
                   clear H;have H:=H1;clear H1
                   by_cases c52 : (t459.length : Int) = 0
                   ·
                    rw [if_pos c52] at H
                    have c52b0 : ((t459.length : Int) == 0) = true:=beq_iff_eq.mpr c52
                    have c52b1 : ((t459.length : Int) != 0) = false:=bne_eq_false_iff_eq.mpr c52;clear c52
                    replace H:=Option.bind_eq_some_iff.mp H
                    obtain ⟨t482,A530,H⟩:=H
                    replace H : (some t482) = some r:=H
                    have A53:=Aside0.mk A530;clear A530
                    obtain rfl:=Option.some.inj H
                    obtain ⟨Ao54,co54,eo54⟩:=Kd.R_slice HO_6.out;subst eo54
                    go_wp2_with (first|(go_at_call 21;(with_reducible refine (laws_alive.calls  t482 _ A53.out).mono ?_);rintro e w' ⟨rfl,⟨nd,rfl⟩⟩))
                    go_ret
                    exact ⟨by first|rfl|(simp [errW_none,errW_some] <;> rfl)|(simp [*,errW_none,errW_some] <;> rfl),by repeat (first|(with_reducible first|exact HB.out|apply below_alloc|apply pw_below_drewN|apply below_drew1|refine below_set ?_ GE476.out)|exact HB.out)⟩
                   ·
                    rw [if_neg c52] at H
                    have c52b0 : ((t459.length : Int) == 0) = false:=beq_eq_false_iff_ne.mpr c52
                    have c52b1 : ((t459.length : Int) != 0) = true:=bne_iff_ne.mpr c52
                    have c52b2 : ¬ (t459 = []):=fun h_ => c52 (by rw [h_];rfl)
                    obtain rfl:=Option.some.inj H
                    obtain ⟨Ao55,co55,eo55⟩:=Kd.R_slice HO_6.out;subst eo55
                    go_wp2
                    go_ret
                    exact ⟨by first|rfl|(simp [errW_none,errW_some] <;> rfl)|(simp [*,errW_none,errW_some] <;> rfl),by repeat (first|(with_reducible first|exact HB.out|apply below_alloc|apply pw_below_drewN|apply below_drew1|refine below_set ?_ GE476.out)|exact HB.out)⟩

/-- THE ONE PURE STATEMENT of laws_FnCountsFor: yours. -/
def laws_FnCountsFor.Pure : Prop:=∀ (l0 : List Int) (l1 : List Int),l0.length ≤ maxLen → l0.length * 1 ≤ 140737488351232 → (∀ x ∈ l0,(Lit.int .u8 x).wf = true) → l1.length ≤ maxLen → l1.length * 1 ≤ 140737488351232 → (∀ x ∈ l1,(Lit.int .u8 x).wf = true) → ∃ k,laws_FnCountsFor.f k l0 l1 = some true
end Go.Proofs.Ytmbninbecclbiaa.PA
