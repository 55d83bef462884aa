/- The machine side of functions of this seat, written by the session's program myprint.py: for each Go function a Lean function and the proof that the call answers just it. -/
import Derived.Test.YtmkfmbjemdbigaaPAx0
namespace Go.Proofs.Ytmkfmbjemdbigaa.PA
open Go.RowKit Go.Proofs.YtmkfmbjemdbigaaW.PrintWords Go.Proofs.YtmkfmbjemdbigaaW.PrintLast Go.Proofs.YtmkfmbjemdbigaaW.PrintMore
attribute [local go_sem] max2_int min2_int max_two min_two max_three min_three max_four min_four   -- for this text's walks alone
set_option linter.unusedVariables false
set_option linter.unusedSimpArgs false

/-! ### impl_weighed: function 40 -/
def impl_weighed.l0 : Nat → List Int → Int → List Int → Int → Int → Option (Int)
 | 0,_,_,_,_,_ => none
 | k + 1,x1,x5,x8,x9,x10 => if x10 < x9 then (if 0 ≤ x10 then (if x10 < (x8.length : Int) then (if x10 < (x1.length : Int) then (impl_weighed.l0 k x1 (wrap64 (x5 + (wrap64 ((rd x8 x10) * (rd x1 x10))))) x8 x9 (wrap64 (x10 + 1))) else (none)) else (none)) else (none)) else (some x5)
def impl_weighed.f (k : Nat) (l0 : List Int) (l1 : List Int) : Option (Int):=impl_weighed.l0 k l1 0 l0 (l0.length : Int) 0
theorem impl_weighed.mono_l : ∀ k,(∀ y0 y1 y2 y3 y4,LeO (impl_weighed.l0 k y0 y1 y2 y3 y4) (impl_weighed.l0 (k + 1) y0 y1 y2 y3 y4))
 | 0 => fun _ _ _ _ _ r h => by simp [impl_weighed.l0] at h
 | k + 1 => by
  have ih0:=impl_weighed.mono_l k
  ·
   intro y0 y1 y2 y3 y4;unfold impl_weighed.l0;repeat' first
   | (with_reducible exact ih0 _ _ _ _ _)
   | (with_reducible exact LeO.refl _)
   | (with_reducible refine LeO.ite ?_ ?_)
theorem impl_weighed.mono : ∀ a0 a1 k,LeO (impl_weighed.f k a0 a1) (impl_weighed.f (k + 1) a0 a1):=by
 intro a0 a1 k;have ih0:=impl_weighed.mono_l k;unfold impl_weighed.f;repeat' first
   | (with_reducible exact ih0 _ _ _ _ _)
set_option maxHeartbeats 8000000 in
set_option maxRecDepth 100000 in
theorem impl_weighed.calls (k : Nat) (A0 : Option Addr) (c0 : Nat) (l0 : List Int) (A1 : Option Addr) (c1 : Nat) (l1 : List Int) (r : Int) (w : World) (hr0 : Kd.C (Kd.int .i64) w A0 l0.length l0) (hc0 : l0.length ≤ c0) (hr1 : Kd.C (Kd.int .i64) w A1 l1.length l1) (hc1 : l1.length ≤ c1) (h : impl_weighed.f k l0 l1 = some r) :
  Calls Try.prog 40 #[.slice A0 l0.length c0,.slice A1 l1.length c1] w fun e w' => e = .returned (.int .i64 r) ∧ Drawn0 w w':=by
 have HR0:=Aside0.mk hr0;have HC0:=Aside0.mk hc0;clear hr0 hc0;have HR1:=Aside0.mk hr1;have HC1:=Aside0.mk hc1;clear hr1 hc1;have H : (impl_weighed.l0 k l1 0 l0 (l0.length : Int) 0) = some r:=h;clear h;have H':=Aside0.mk H;clear H;go_enter Try.func40,Try.ntmps40;go_wp2;go_loopg [5,10] k (fun kq v5 v10 w' => ∃ (x5_1 : Int) (x10_1 : Int),v5 = .int .i64 x5_1 ∧ v10 = .int .i64 x10_1 ∧ Aside0 (impl_weighed.l0 kq l1 x5_1 l0 (l0.length : Int) x10_1 = some r) ∧ Aside0 (kq ≤ k) ∧ Drawn0 w w');case atStart => exact ⟨(0),(0),(by rfl),(by rfl),H',⟨Nat.le_refl _⟩,by repeat (exact Drawn0.refl _)⟩
 case round =>
  clear H';obtain ⟨x5_1,x10_1,rfl,rfl,HA,HK1,⟨m1,rfl⟩⟩:=hrel;cases gk with
  | zero => exact absurd HA.out (by simp [impl_weighed.l0])
  | succ k1 =>
   have H:=HA.out;clear HA;simp only [impl_weighed.l0] at H;by_cases c3 : x10_1 < (l0.length : Int)
   ·
    rw [if_pos c3] at H;have c3b0 : decide (x10_1 < (l0.length : Int)) = true:=decide_eq_true c3;clear c3;by_cases c4 : 0 ≤ x10_1
    ·
     rw [if_pos c4] at H;have c4b0 : decide (0 ≤ x10_1) = true:=decide_eq_true c4;clear c4;by_cases c5 : x10_1 < (l0.length : Int)
     ·
      rw [if_pos c5] at H;have c5b0 : decide (x10_1 < (l0.length : Int)) = true:=decide_eq_true c5;clear c5;by_cases c6 : x10_1 < (l1.length : Int)
      ·
       rw [if_pos c6] at H;have c6b0 : decide (x10_1 < (l1.length : Int)) = true:=decide_eq_true c6;clear c6;have H':=Aside0.mk H;clear H;have p157 : 0 ≤ (x10_1 : Int):=of_decide_eq_true (by (with_reducible assumption));have q157 : x10_1 < (l0.length : Int):=of_decide_eq_true (by (with_reducible assumption));obtain ⟨ad157,e157,hx157_0⟩:=Kd.at_int HR0.out x10_1 p157 q157;cases e157;replace p157:=eq_true p157;replace q157:=eq_true q157;have p158 : 0 ≤ (x10_1 : Int):=of_decide_eq_true (by (with_reducible assumption));have q158 : x10_1 < (l1.length : Int):=of_decide_eq_true (by (with_reducible assumption));obtain ⟨ad158,e158,hx158_0⟩:=Kd.at_int HR1.out x10_1 p158 q158;cases e158;replace p158:=eq_true p158;replace q158:=eq_true q158;go_wp2;go_roundg k1;case measure => have:=HK1.out;omega
       case rel => exact ⟨(wrap64 (x5_1 + (wrap64 ((rd l0 x10_1) * (rd l1 x10_1))))),(wrap64 (x10_1 + 1)),(by rfl),(by rfl),H',⟨by have:=HK1.out;omega⟩,by repeat (first|exact Drawn0.refl _|apply Drawn0.step)⟩
      ·
       rw [if_neg c6] at H;exact absurd H (by simp)
     ·
      rw [if_neg c5] at H;exact absurd H (by simp)
    ·
     rw [if_neg c4] at H;exact absurd H (by simp)
   ·
    rw [if_neg c3] at H;have c3b0 : decide (x10_1 < (l0.length : Int)) = false:=decide_eq_false c3;clear c3;obtain rfl:=Option.some.inj H;go_wp2;go_ret;exact ⟨by rfl,by repeat (first|exact Drawn0.refl _|apply Drawn0.step)⟩

/-! ### impl_isOf: function 53 -/
def impl_isOf.f (a0 : Int) (a1 : Int) : Option (Bool):=if 0 ≤ (wrap64 (Int.tdiv a1 2)) then (some (((Go.bits .and .i64 (shr .i64 a0 (wrap64 (Int.tdiv a1 2))) 1) == 1) == ((Int.tmod a1 2) == 0))) else (none)
set_option maxHeartbeats 8000000 in
set_option maxRecDepth 100000 in
theorem impl_isOf.calls (a0 : Int) (a1 : Int) (r : Bool) (w : World) (h : impl_isOf.f a0 a1 = some r) :
  Calls Try.prog 53 #[.int .i64 a0,.int .i64 a1] w fun e w' => e = .returned (.bool r) ∧ Drawn0 w w':=by
 have H : (if 0 ≤ (wrap64 (Int.tdiv a1 2)) then (some (((Go.bits .and .i64 (shr .i64 a0 (wrap64 (Int.tdiv a1 2))) 1) == 1) == ((Int.tmod a1 2) == 0))) else (none)) = some r:=h;clear h;obtain ⟨ji3,hji3⟩ : ∃ j_ : Int,(wrap64 (Int.tdiv a1 2)) = j_:=⟨_,rfl⟩
 replace H : (if 0 ≤ (ji3) then (some (((Go.bits .and .i64 (shr .i64 a0 (ji3)) 1) == 1) == ((Int.tmod a1 2) == 0))) else (none)) = some r:=by (rw [hji3] at H;exact H)
 have hji3w : (IntKind.i64.wrap (Int.tdiv a1 2)) = ji3:=(i64_w _).trans hji3;by_cases c4 : 0 ≤ (ji3)
 ·
  rw [if_pos c4] at H;have c4b0:=eq_true c4;have c4b1 : decide (0 ≤ (ji3)) = true:=decide_eq_true c4;clear c4;obtain ⟨ji5,hji5⟩ : ∃ j_ : Int,(shr .i64 a0 (ji3)) = j_:=⟨_,rfl⟩
  replace H : (some (((Go.bits .and .i64 (ji5) 1) == 1) == ((Int.tmod a1 2) == 0))) = some r:=by (rw [hji5] at H;exact H)
  have hji5_ : (a0 / 2 ^ min (ji3).toNat 64) = ji5:=hji5;have hji5z : (ji3) ≤ 64 → (a0 / 2 ^ (ji3).toNat) = ji5:=shr_small hji5;obtain rfl:=Option.some.inj H;go_enter Try.func53,Try.ntmps53;go_wp2;go_ret;exact ⟨by rfl,by repeat (exact Drawn0.refl _)⟩
 ·
  rw [if_neg c4] at H;exact absurd H (by simp)

end Go.Proofs.Ytmkfmbjemdbigaa.PA
