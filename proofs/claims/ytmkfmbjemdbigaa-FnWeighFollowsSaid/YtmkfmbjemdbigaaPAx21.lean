/- The machine side of functions of this seat, written by the session's program myprint.py: for each Go function a Lean function and the proof that the call answers just it. -/
import Derived.Test.YtmkfmbjemdbigaaPAx0
namespace Go.Proofs.Ytmkfmbjemdbigaa.PA
open Go.RowKit Go.Proofs.YtmkfmbjemdbigaaW.PrintWords Go.Proofs.YtmkfmbjemdbigaaW.PrintLast Go.Proofs.YtmkfmbjemdbigaaW.PrintMore
attribute [local go_sem] max2_int min2_int max_two min_two max_three min_three max_four min_four   -- for this text's walks alone
set_option linter.unusedVariables false
set_option linter.unusedSimpArgs false

/-! ### spec_l6Less: function 50 -/
def spec_l6Less.l0 : Nat → List Int → List Int → Int → Option (Bool)
 | 0,_,_,_ => none
 | k + 1,x0,x1,x5 => if x5 < (x0.length : Int) then (if 0 ≤ x5 then (if x5 < (x1.length : Int) then (if (rd x0 x5) = (rd x1 x5) then (spec_l6Less.l0 k x0 x1 (wrap64 (x5 + 1))) else (some (decide ((rd x0 x5) < (rd x1 x5))))) else (none)) else (none)) else (some false)
def spec_l6Less.f (k : Nat) (l0 : List Int) (l1 : List Int) : Option (Bool):=spec_l6Less.l0 k l0 l1 0
theorem spec_l6Less.mono_l : ∀ k,(∀ y0 y1 y2,LeO (spec_l6Less.l0 k y0 y1 y2) (spec_l6Less.l0 (k + 1) y0 y1 y2))
 | 0 => fun _ _ _ r h => by simp [spec_l6Less.l0] at h
 | k + 1 => by
  have ih0:=spec_l6Less.mono_l k
  ·
   intro y0 y1 y2;unfold spec_l6Less.l0;repeat' first
   | (with_reducible exact ih0 _ _ _)
   | (with_reducible exact LeO.refl _)
   | (with_reducible refine LeO.ite ?_ ?_)
theorem spec_l6Less.mono : ∀ a0 a1 k,LeO (spec_l6Less.f k a0 a1) (spec_l6Less.f (k + 1) a0 a1):=by
 intro a0 a1 k;have ih0:=spec_l6Less.mono_l k;unfold spec_l6Less.f;repeat' first
   | (with_reducible exact ih0 _ _ _)
set_option maxHeartbeats 8000000 in
set_option maxRecDepth 100000 in
theorem spec_l6Less.calls (k : Nat) (A0 : Option Addr) (c0 : Nat) (l0 : List Int) (A1 : Option Addr) (c1 : Nat) (l1 : List Int) (r : Bool) (w : World) (hr0 : Kd.C (Kd.int .i64) w A0 l0.length l0) (hc0 : l0.length ≤ c0) (hr1 : Kd.C (Kd.int .i64) w A1 l1.length l1) (hc1 : l1.length ≤ c1) (h : spec_l6Less.f k l0 l1 = some r) :
  Calls Try.prog 50 #[.slice A0 l0.length c0,.slice A1 l1.length c1] w fun e w' => e = .returned (.bool r) ∧ Drawn0 w w':=by
 have HR0:=Aside0.mk hr0;have HC0:=Aside0.mk hc0;clear hr0 hc0;have HR1:=Aside0.mk hr1;have HC1:=Aside0.mk hc1;clear hr1 hc1;have H : (spec_l6Less.l0 k l0 l1 0) = some r:=h;clear h;have H':=Aside0.mk H;clear H;go_enter Try.func50,Try.ntmps50;go_wp2;repeat (go_quiet (fail))
 go_loopg [5] k (fun kq v5 w' => ∃ (x5_1 : Int),v5 = .int .i64 x5_1 ∧ Aside0 (spec_l6Less.l0 kq l0 l1 x5_1 = some r) ∧ Aside0 (kq ≤ k) ∧ Drawn0 w w');case atStart => exact ⟨(0),(by rfl),H',⟨Nat.le_refl _⟩,by repeat (exact Drawn0.refl _)⟩
 case round =>
  clear H';obtain ⟨x5_1,rfl,HA,HK1,⟨m1,rfl⟩⟩:=hrel;cases gk with
  | zero => exact absurd HA.out (by simp [spec_l6Less.l0])
  | succ k1 =>
   have H:=HA.out;clear HA;simp only [spec_l6Less.l0] at H;by_cases c3 : x5_1 < (l0.length : Int)
   ·
    rw [if_pos c3] at H;have c3b0 : decide (x5_1 < (l0.length : Int)) = true:=decide_eq_true c3;clear c3;by_cases c4 : 0 ≤ x5_1
    ·
     rw [if_pos c4] at H;have c4b0 : decide (0 ≤ x5_1) = true:=decide_eq_true c4;clear c4;by_cases c5 : x5_1 < (l1.length : Int)
     ·
      rw [if_pos c5] at H;have c5b0 : decide (x5_1 < (l1.length : Int)) = true:=decide_eq_true c5;clear c5;by_cases c6 : (rd l0 x5_1) = (rd l1 x5_1)
      ·
       rw [if_pos c6] at H;have c6b0 : ((rd l0 x5_1) == (rd l1 x5_1)) = true:=beq_iff_eq.mpr c6;have c6b1 : ((rd l0 x5_1) != (rd l1 x5_1)) = false:=bne_eq_false_iff_eq.mpr c6;clear c6;have H':=Aside0.mk H;clear H;have p293 : 0 ≤ (x5_1 : Int):=of_decide_eq_true (by (with_reducible assumption));have q293 : x5_1 < (l0.length : Int):=of_decide_eq_true (by (with_reducible assumption));obtain ⟨ad293,e293,hx293_0⟩:=Kd.at_int HR0.out x5_1 p293 q293;cases e293;replace p293:=eq_true p293;replace q293:=eq_true q293;have p294 : 0 ≤ (x5_1 : Int):=of_decide_eq_true (by (with_reducible assumption));have q294 : x5_1 < (l1.length : Int):=of_decide_eq_true (by (with_reducible assumption));obtain ⟨ad294,e294,hx294_0⟩:=Kd.at_int HR1.out x5_1 p294 q294;cases e294;replace p294:=eq_true p294;replace q294:=eq_true q294;go_wp2;repeat (go_quiet (fail);try go_wp2)
       go_roundg k1;case measure => have:=HK1.out;omega
       case rel => exact ⟨(wrap64 (x5_1 + 1)),(by rfl),H',⟨by have:=HK1.out;omega⟩,by repeat (first|exact Drawn0.refl _|apply Drawn0.step)⟩
      ·
       rw [if_neg c6] at H;have c6b0 : ((rd l0 x5_1) == (rd l1 x5_1)) = false:=beq_eq_false_iff_ne.mpr c6;have c6b1 : ((rd l0 x5_1) != (rd l1 x5_1)) = true:=bne_iff_ne.mpr c6;obtain rfl:=Option.some.inj H;have p293 : 0 ≤ (x5_1 : Int):=of_decide_eq_true (by (with_reducible assumption));have q293 : x5_1 < (l0.length : Int):=of_decide_eq_true (by (with_reducible assumption));obtain ⟨ad293,e293,hx293_0⟩:=Kd.at_int HR0.out x5_1 p293 q293;cases e293;replace p293:=eq_true p293;replace q293:=eq_true q293;have p294 : 0 ≤ (x5_1 : Int):=of_decide_eq_true (by (with_reducible assumption));have q294 : x5_1 < (l1.length : Int):=of_decide_eq_true (by (with_reducible assumption));obtain ⟨ad294,e294,hx294_0⟩:=Kd.at_int HR1.out x5_1 p294 q294;cases e294;replace p294:=eq_true p294;replace q294:=eq_true q294;have p295 : 0 ≤ (x5_1 : Int):=of_decide_eq_true (by (with_reducible assumption));have q295 : x5_1 < (l0.length : Int):=of_decide_eq_true (by (with_reducible assumption));obtain ⟨ad295,e295,hx295_0⟩:=Kd.at_int HR0.out x5_1 p295 q295;obtain rfl : ad293 = ad295:=(by injection e295)
       replace p295:=eq_true p295;replace q295:=eq_true q295;have p296 : 0 ≤ (x5_1 : Int):=of_decide_eq_true (by (with_reducible assumption));have q296 : x5_1 < (l1.length : Int):=of_decide_eq_true (by (with_reducible assumption));obtain ⟨ad296,e296,hx296_0⟩:=Kd.at_int HR1.out x5_1 p296 q296;obtain rfl : ad294 = ad296:=(by injection e296)
       replace p296:=eq_true p296;replace q296:=eq_true q296;go_wp2;repeat (go_quiet (fail);try go_wp2)
       go_ret;exact ⟨by rfl,by repeat (first|exact Drawn0.refl _|apply Drawn0.step)⟩
     ·
      rw [if_neg c5] at H;exact absurd H (by simp)
    ·
     rw [if_neg c4] at H;exact absurd H (by simp)
   ·
    rw [if_neg c3] at H;have c3b0 : decide (x5_1 < (l0.length : Int)) = false:=decide_eq_false c3;clear c3;obtain rfl:=Option.some.inj H;go_wp2;repeat (go_quiet (fail))
    go_ret;exact ⟨by rfl,by repeat (first|exact Drawn0.refl _|apply Drawn0.step)⟩

end Go.Proofs.Ytmkfmbjemdbigaa.PA
