/- The machine side of functions of this seat, written by the session's program myprint.py: for each Go function a Lean function and the proof that the call answers just it. -/
import Derived.Test.YtmeamfkjfpaciaaPAx0
import Derived.Test.YtmeamfkjfpaciaaUp
import Derived.Test.YtmeamfkjfpaciaaPAx5
namespace Go.Proofs.Ytmeamfkjfpaciaa.PA
open Go.RowKit Go.Proofs.YtmeamfkjfpaciaaW.PrintWords Go.Proofs.YtmeamfkjfpaciaaW.PrintLast Go.Proofs.YtmeamfkjfpaciaaW.PrintMore
attribute [local go_sem] max2_int min2_int max_two min_two max_three min_three max_four min_four   -- for this text's walks alone
set_option linter.unusedVariables false
set_option linter.unusedSimpArgs false

/-! ### spec_Between: function 27 -/
mutual
def spec_Between.l0 : Nat → List Int → Int → Option (Bool)
 | 0,_,_ => none
 | k + 1,x0,x3 => if x3 ≤ 5 then (spec_Between.l1 k x0 x3 0) else (some true)
def spec_Between.l1 : Nat → List Int → Int → Int → Option (Bool)
 | 0,_,_,_ => none
 | k + 1,x0,x3,x4 => if x4 ≤ x3 then (spec_Between.l2 k x0 x3 x4 x4) else (spec_Between.l0 k x0 (wrap64 (x3 + 1)))
def spec_Between.l2 : Nat → List Int → Int → Int → Int → Option (Bool)
 | 0,_,_,_,_ => none
 | k + 1,x0,x3,x4,x5 => if x5 ≤ x3 then (spec_Between.l3 k x0 x3 x4 x5 x4) else (spec_Between.l1 k x0 x3 (wrap64 (x4 + 1)))
def spec_Between.l3 : Nat → List Int → Int → Int → Int → Int → Option (Bool)
 | 0,_,_,_,_,_ => none
 | k + 1,x0,x3,x4,x5,x6 => if x6 ≤ x5 then ((spec_PlaceOf.f x3 x4).bind fun t315 => (if 0 ≤ t315 then (if t315 < (x0.length : Int) then (if (rd x0 t315) = 1 then ((spec_PlaceOf.f x3 x5).bind fun t317 => (if 0 ≤ t317 then (if t317 < (x0.length : Int) then (if (rd x0 t317) = 1 then ((spec_PlaceOf.f x3 x6).bind fun t319 => (if 0 ≤ t319 then (if t319 < (x0.length : Int) then (if (rd x0 t319) = 0 then (some false) else (spec_Between.l3 k x0 x3 x4 x5 (wrap64 (x6 + 1)))) else (none)) else (none))) else (spec_Between.l3 k x0 x3 x4 x5 (wrap64 (x6 + 1)))) else (none)) else (none))) else (spec_Between.l3 k x0 x3 x4 x5 (wrap64 (x6 + 1)))) else (none)) else (none))) else (spec_Between.l2 k x0 x3 x4 (wrap64 (x5 + 1)))
end
def spec_Between.f (k : Nat) (l0 : List Int) : Option (Bool):=(spec_TriangleOk.f k l0).bind fun t314 => (if t314 = true then (spec_Between.l0 k l0 0) else (some false))
theorem spec_Between.mono_l : ∀ k,(∀ y0 y1,LeO (spec_Between.l0 k y0 y1) (spec_Between.l0 (k + 1) y0 y1)) ∧ (∀ y0 y1 y2,LeO (spec_Between.l1 k y0 y1 y2) (spec_Between.l1 (k + 1) y0 y1 y2)) ∧ (∀ y0 y1 y2 y3,LeO (spec_Between.l2 k y0 y1 y2 y3) (spec_Between.l2 (k + 1) y0 y1 y2 y3)) ∧ (∀ y0 y1 y2 y3 y4,LeO (spec_Between.l3 k y0 y1 y2 y3 y4) (spec_Between.l3 (k + 1) y0 y1 y2 y3 y4))
 | 0 => ⟨fun _ _ r h => by simp [spec_Between.l0] at h,fun _ _ _ r h => by simp [spec_Between.l1] at h,fun _ _ _ _ r h => by simp [spec_Between.l2] at h,fun _ _ _ _ _ r h => by simp [spec_Between.l3] at h⟩
 | k + 1 => by
  obtain ⟨ih0,ih1,ih2,ih3⟩:=spec_Between.mono_l k
  refine ⟨?_,?_,?_,?_⟩
  ·
   intro y0 y1
   unfold spec_Between.l0
   repeat' first
   | (with_reducible exact ih0 _ _)
   | (with_reducible exact ih1 _ _ _)
   | (with_reducible exact ih2 _ _ _ _)
   | (with_reducible exact ih3 _ _ _ _ _)
   | (with_reducible exact spec_TriangleOk.mono _ _)
   | (with_reducible exact LeO.refl _)
   | (with_reducible exact LeO.none _)
   | (with_reducible refine LeO.ite ?_ ?_)
   | (with_reducible refine LeO.bind ?_ (fun _ => ?_))
   | exact ih0 _ _
   | exact ih1 _ _ _
   | exact ih2 _ _ _ _
   | exact ih3 _ _ _ _ _
   | exact spec_TriangleOk.mono _ _
   | exact LeO.none _
   | refine LeO.ite ?_ ?_
   | refine LeO.bind ?_ (fun _ => ?_)
  ·
   intro y0 y1 y2
   unfold spec_Between.l1
   repeat' first
   | (with_reducible exact ih0 _ _)
   | (with_reducible exact ih1 _ _ _)
   | (with_reducible exact ih2 _ _ _ _)
   | (with_reducible exact ih3 _ _ _ _ _)
   | (with_reducible exact spec_TriangleOk.mono _ _)
   | (with_reducible exact LeO.refl _)
   | (with_reducible exact LeO.none _)
   | (with_reducible refine LeO.ite ?_ ?_)
   | (with_reducible refine LeO.bind ?_ (fun _ => ?_))
   | exact ih0 _ _
   | exact ih1 _ _ _
   | exact ih2 _ _ _ _
   | exact ih3 _ _ _ _ _
   | exact spec_TriangleOk.mono _ _
   | exact LeO.none _
   | refine LeO.ite ?_ ?_
   | refine LeO.bind ?_ (fun _ => ?_)
  ·
   intro y0 y1 y2 y3
   unfold spec_Between.l2
   repeat' first
   | (with_reducible exact ih0 _ _)
   | (with_reducible exact ih1 _ _ _)
   | (with_reducible exact ih2 _ _ _ _)
   | (with_reducible exact ih3 _ _ _ _ _)
   | (with_reducible exact spec_TriangleOk.mono _ _)
   | (with_reducible exact LeO.refl _)
   | (with_reducible exact LeO.none _)
   | (with_reducible refine LeO.ite ?_ ?_)
   | (with_reducible refine LeO.bind ?_ (fun _ => ?_))
   | exact ih0 _ _
   | exact ih1 _ _ _
   | exact ih2 _ _ _ _
   | exact ih3 _ _ _ _ _
   | exact spec_TriangleOk.mono _ _
   | exact LeO.none _
   | refine LeO.ite ?_ ?_
   | refine LeO.bind ?_ (fun _ => ?_)
  ·
   intro y0 y1 y2 y3 y4
   unfold spec_Between.l3
   repeat' first
   | (with_reducible exact ih0 _ _)
   | (with_reducible exact ih1 _ _ _)
   | (with_reducible exact ih2 _ _ _ _)
   | (with_reducible exact ih3 _ _ _ _ _)
   | (with_reducible exact spec_TriangleOk.mono _ _)
   | (with_reducible exact LeO.refl _)
   | (with_reducible exact LeO.none _)
   | (with_reducible refine LeO.ite ?_ ?_)
   | (with_reducible refine LeO.bind ?_ (fun _ => ?_))
   | exact ih0 _ _
   | exact ih1 _ _ _
   | exact ih2 _ _ _ _
   | exact ih3 _ _ _ _ _
   | exact spec_TriangleOk.mono _ _
   | exact LeO.none _
   | refine LeO.ite ?_ ?_
   | refine LeO.bind ?_ (fun _ => ?_)
theorem spec_Between.mono : ∀ a0 k,LeO (spec_Between.f k a0) (spec_Between.f (k + 1) a0):=by
 intro a0 k
 obtain ⟨ih0,ih1,ih2,ih3⟩:=spec_Between.mono_l k
 unfold spec_Between.f
 repeat' first
   | (with_reducible exact ih0 _ _)
   | (with_reducible exact ih1 _ _ _)
   | (with_reducible exact ih2 _ _ _ _)
   | (with_reducible exact ih3 _ _ _ _ _)
   | (with_reducible exact spec_TriangleOk.mono _ _)
   | (with_reducible exact LeO.refl _)
   | (with_reducible exact LeO.none _)
   | (with_reducible refine LeO.ite ?_ ?_)
   | (with_reducible refine LeO.bind ?_ (fun _ => ?_))
   | exact ih0 _ _
   | exact ih1 _ _ _
   | exact ih2 _ _ _ _
   | exact ih3 _ _ _ _ _
   | exact spec_TriangleOk.mono _ _
   | exact LeO.none _
   | refine LeO.ite ?_ ?_
   | refine LeO.bind ?_ (fun _ => ?_)
set_option maxHeartbeats 8000000 in
set_option maxRecDepth 100000 in
theorem spec_Between.calls (k : Nat) (A0 : Option Addr) (c0 : Nat) (l0 : List Int) (r : Bool) (w : World) (hr0 : Kd.C (Kd.int .i64) w A0 l0.length l0) (hc0 : l0.length ≤ c0) (h : spec_Between.f k l0 = some r) :
  Calls Try.prog 27 #[.slice A0 l0.length c0] w fun e w' => e = .returned (.bool r) ∧ Drawn0 w w':=by
 have HR0:=Aside0.mk hr0
 have HC0:=Aside0.mk hc0;clear hr0 hc0
 have H : ((spec_TriangleOk.f k l0).bind fun t314 => (if t314 = true then (spec_Between.l0 k l0 0) else (some false))) = some r:=h;clear h
 replace H:=Option.bind_eq_some_iff.mp H
 obtain ⟨t314,A20,H⟩:=H
 replace H : (if t314 = true then (spec_Between.l0 k l0 0) else (some false)) = some r:=H
 have A2:=Aside0.mk A20;clear A20
 by_cases c3 : t314 = true
 ·
  subst c3
  have H1 : (spec_Between.l0 k l0 0) = some r:=by rw [if_pos rfl] at H;exact H
  clear H;have H:=H1;clear H1
  have H':=Aside0.mk H;clear H
  go_enter Try.func27,Try.ntmps27
  go_wp2_with (first|((with_reducible refine gate_callee (f:=17) rfl ?_);refine goesL_ (some 8) rfl rfl Try.func17 (by kernel_rfl) rfl #[.slice A0 l0.length c0] rfl (by (try simp only [List.map_toArray,List.map_cons,List.map_nil]);first|done|rfl|(simp only [List.length_drop,List.length_take];rfl)) ?_;(with_reducible refine (spec_TriangleOk.calls k _ _ l0 true _ ?side1 ?side2 A2.out).mono ?_);(case side1 => repeat (first|exact HR0.out|(with_reducible refine Kd.C_alloc ?_ _)|(with_reducible refine Kd.C_drewN ?_ _)|(with_reducible refine Kd.C_drew ?_)));(case side2 => exact HC0.out);rintro e w' ⟨rfl,⟨nd,rfl⟩⟩;refine ⟨_,rfl,?_⟩))
  go_loopg [3] k (fun kq v3 w' => ∃ (x3_1 : Int),v3 = .int .i64 x3_1 ∧ Aside0 (spec_Between.l0 kq l0 x3_1 = some r) ∧ Aside0 (kq ≤ k) ∧ Drawn0 w w')
  case atStart => exact ⟨(0),(by first|rfl|(simp;done)|(simp [*];done)),H',⟨Nat.le_refl _⟩,by repeat (first|exact Drawn0.refl _|apply Drawn0.step)⟩
  case round =>
   clear H'
   try clear c1
   try clear c2
   try clear p2
   try clear c3
   obtain ⟨x3_1,rfl,HA,HK1,⟨m1,rfl⟩⟩:=hrel
   cases gk with
   | zero => exact absurd HA.out (by simp [spec_Between.l0])
   | succ k1 =>
    have H:=HA.out;clear HA
    simp only [spec_Between.l0] at H
    by_cases c4 : x3_1 ≤ 5
    ·
     rw [if_pos c4] at H
     have c4b0 : decide (x3_1 ≤ 5) = true:=decide_eq_true c4;clear c4
     have H':=Aside0.mk H;clear H
     go_wp2
     go_loopg [4] k1 (fun kq v4 w' => ∃ (x4_2 : Int),v4 = .int .i64 x4_2 ∧ Aside0 (spec_Between.l1 kq l0 x3_1 x4_2 = some r) ∧ Aside0 (kq ≤ k1) ∧ Drawn0 w w')
     case atStart => exact ⟨(0),(by first|rfl|(simp;done)|(simp [*];done)),H',⟨Nat.le_refl _⟩,by repeat (first|exact Drawn0.refl _|apply Drawn0.step)⟩
     case round =>
      clear H'
      try clear c1
      try clear c2
      try clear p2
      try clear c3
      try clear c4
      try clear c4b0
      try clear p2
      obtain ⟨x4_2,rfl,HA,HK2,⟨m2,rfl⟩⟩:=hrel
      cases gk with
      | zero => exact absurd HA.out (by simp [spec_Between.l1])
      | succ k2 =>
       have H:=HA.out;clear HA
       simp only [spec_Between.l1] at H
       by_cases c5 : x4_2 ≤ x3_1
       ·
        rw [if_pos c5] at H
        have c5b0 : decide (x4_2 ≤ x3_1) = true:=decide_eq_true c5;clear c5
        have H':=Aside0.mk H;clear H
        go_wp2
        go_loopg [5] k2 (fun kq v5 w' => ∃ (x5_3 : Int),v5 = .int .i64 x5_3 ∧ Aside0 (spec_Between.l2 kq l0 x3_1 x4_2 x5_3 = some r) ∧ Aside0 (kq ≤ k2) ∧ Drawn0 w w')
        case atStart => exact ⟨(x4_2),(by first|rfl|(simp;done)|(simp [*];done)),H',⟨Nat.le_refl _⟩,by repeat (first|exact Drawn0.refl _|apply Drawn0.step)⟩
        case round =>
         clear H'
         try clear c1
         try clear c2
         try clear p2
         try clear c3
         try clear c4
         try clear c4b0
         try clear c5
         try clear c5b0
         try clear p2
         obtain ⟨x5_3,rfl,HA,HK3,⟨m3,rfl⟩⟩:=hrel
         cases gk with
         | zero => exact absurd HA.out (by simp [spec_Between.l2])
         | succ k3 =>
          have H:=HA.out;clear HA
          simp only [spec_Between.l2] at H
          by_cases c6 : x5_3 ≤ x3_1
          ·
           rw [if_pos c6] at H
           have c6b0 : decide (x5_3 ≤ x3_1) = true:=decide_eq_true c6;clear c6
           have H':=Aside0.mk H;clear H
           go_wp2
           go_loopg [6] k3 (fun kq v6 w' => ∃ (x6_4 : Int),v6 = .int .i64 x6_4 ∧ Aside0 (spec_Between.l3 kq l0 x3_1 x4_2 x5_3 x6_4 = some r) ∧ Aside0 (kq ≤ k3) ∧ Drawn0 w w')
           case atStart => exact ⟨(x4_2),(by first|rfl|(simp;done)|(simp [*];done)),H',⟨Nat.le_refl _⟩,by repeat (first|exact Drawn0.refl _|apply Drawn0.step)⟩
           case round =>
            clear H'
            try clear c1
            try clear c2
            try clear p2
            try clear c3
            try clear c4
            try clear c4b0
            try clear c5
            try clear c5b0
            try clear c6
            try clear c6b0
            try clear p2
            obtain ⟨x6_4,rfl,HA,HK4,⟨m4,rfl⟩⟩:=hrel
            cases gk with
            | zero => exact absurd HA.out (by simp [spec_Between.l3])
            | succ k4 =>
             have H:=HA.out;clear HA
             simp only [spec_Between.l3] at H
             by_cases c7 : x6_4 ≤ x5_3
             ·
              rw [if_pos c7] at H
              have c7b0 : decide (x6_4 ≤ x5_3) = true:=decide_eq_true c7;clear c7
              replace H:=Option.bind_eq_some_iff.mp H
              obtain ⟨t315,A80,H⟩:=H
              replace H : (if 0 ≤ t315 then (if t315 < (l0.length : Int) then (if (rd l0 t315) = 1 then ((spec_PlaceOf.f x3_1 x5_3).bind fun t317 => (if 0 ≤ t317 then (if t317 < (l0.length : Int) then (if (rd l0 t317) = 1 then ((spec_PlaceOf.f x3_1 x6_4).bind fun t319 => (if 0 ≤ t319 then (if t319 < (l0.length : Int) then (if (rd l0 t319) = 0 then (some false) else (spec_Between.l3 k4 l0 x3_1 x4_2 x5_3 (wrap64 (x6_4 + 1)))) else (none)) else (none))) else (spec_Between.l3 k4 l0 x3_1 x4_2 x5_3 (wrap64 (x6_4 + 1)))) else (none)) else (none))) else (spec_Between.l3 k4 l0 x3_1 x4_2 x5_3 (wrap64 (x6_4 + 1)))) else (none)) else (none)) = some r:=H
              have A8:=Aside0.mk A80;clear A80
              by_cases c9 : 0 ≤ t315
              ·
               rw [if_pos c9] at H
               have c9b0 : decide (0 ≤ t315) = true:=decide_eq_true c9;clear c9
               by_cases c10 : t315 < (l0.length : Int)
               ·
                rw [if_pos c10] at H
                have c10b0 : decide (t315 < (l0.length : Int)) = true:=decide_eq_true c10;clear c10
                by_cases c11 : (rd l0 t315) = 1
                ·
                 rw [if_pos c11] at H
                 have c11b0 : ((rd l0 t315) == 1) = true:=beq_iff_eq.mpr c11
                 have c11b1 : ((rd l0 t315) != 1) = false:=bne_eq_false_iff_eq.mpr c11;clear c11
                 replace H:=Option.bind_eq_some_iff.mp H
                 obtain ⟨t317,A120,H⟩:=H
                 replace H : (if 0 ≤ t317 then (if t317 < (l0.length : Int) then (if (rd l0 t317) = 1 then ((spec_PlaceOf.f x3_1 x6_4).bind fun t319 => (if 0 ≤ t319 then (if t319 < (l0.length : Int) then (if (rd l0 t319) = 0 then (some false) else (spec_Between.l3 k4 l0 x3_1 x4_2 x5_3 (wrap64 (x6_4 + 1)))) else (none)) else (none))) else (spec_Between.l3 k4 l0 x3_1 x4_2 x5_3 (wrap64 (x6_4 + 1)))) else (none)) else (none)) = some r:=H
                 have A12:=Aside0.mk A120;clear A120
                 by_cases c13 : 0 ≤ t317
                 ·
                  rw [if_pos c13] at H
                  have c13b0 : decide (0 ≤ t317) = true:=decide_eq_true c13;clear c13
                  by_cases c14 : t317 < (l0.length : Int)
                  ·
                   rw [if_pos c14] at H
                   have c14b0 : decide (t317 < (l0.length : Int)) = true:=decide_eq_true c14;clear c14
                   by_cases c15 : (rd l0 t317) = 1
                   ·
                    rw [if_pos c15] at H
                    have c15b0 : ((rd l0 t317) == 1) = true:=beq_iff_eq.mpr c15
                    have c15b1 : ((rd l0 t317) != 1) = false:=bne_eq_false_iff_eq.mpr c15;clear c15
                    replace H:=Option.bind_eq_some_iff.mp H
                    obtain ⟨t319,A160,H⟩:=H
                    replace H : (if 0 ≤ t319 then (if t319 < (l0.length : Int) then (if (rd l0 t319) = 0 then (some false) else (spec_Between.l3 k4 l0 x3_1 x4_2 x5_3 (wrap64 (x6_4 + 1)))) else (none)) else (none)) = some r:=H
                    have A16:=Aside0.mk A160;clear A160
                    by_cases c17 : 0 ≤ t319
                    ·
                     rw [if_pos c17] at H
                     have c17b0 : decide (0 ≤ t319) = true:=decide_eq_true c17;clear c17
                     by_cases c18 : t319 < (l0.length : Int)
                     ·
                      rw [if_pos c18] at H
                      have c18b0 : decide (t319 < (l0.length : Int)) = true:=decide_eq_true c18;clear c18
                      by_cases c19 : (rd l0 t319) = 0
                      ·
                       rw [if_pos c19] at H
                       have c19b0 : ((rd l0 t319) == 0) = true:=beq_iff_eq.mpr c19
                       have c19b1 : ((rd l0 t319) != 0) = false:=bne_eq_false_iff_eq.mpr c19;clear c19
                       obtain rfl:=Option.some.inj H
                       go_wp2_with (first|((with_reducible refine gate_callee (f:=28) rfl ?_);refine goesL_ (some 34) rfl rfl Try.func28 (by kernel_rfl) rfl #[.int .i64 x3_1,.int .i64 x4_2] rfl (by (try simp only [List.map_toArray,List.map_cons,List.map_nil]);first|done|rfl|(simp only [List.length_drop,List.length_take];rfl)) ?_;(with_reducible refine (spec_PlaceOf.calls x3_1 x4_2 t315 _ A8.out).mono ?_);rintro e w' ⟨rfl,⟨nd,rfl⟩⟩;refine ⟨_,rfl,?_⟩;have p316 : 0 ≤ (t315 : Int):=of_decide_eq_true (by first|(with_reducible assumption)|assumption);have q316 : t315 < (l0.length : Int):=of_decide_eq_true (by first|(with_reducible assumption)|assumption);obtain ⟨ad316,e316,hx316_0⟩:=Kd.at_int HR0.out t315 p316 q316;cases e316;replace p316:=eq_true p316;replace q316:=eq_true q316)|(go_at_call 28;(with_reducible refine (spec_PlaceOf.calls x3_1 x5_3 t317 _ A12.out).mono ?_);rintro e w' ⟨rfl,⟨nd,rfl⟩⟩;have p318 : 0 ≤ (t317 : Int):=of_decide_eq_true (by first|(with_reducible assumption)|assumption);have q318 : t317 < (l0.length : Int):=of_decide_eq_true (by first|(with_reducible assumption)|assumption);obtain ⟨ad318,e318,hx318_0⟩:=Kd.at_int HR0.out t317 p318 q318;obtain rfl : ad316 = ad318:=(by injection e318);replace p318:=eq_true p318;replace q318:=eq_true q318)|(go_at_call 28;(with_reducible refine (spec_PlaceOf.calls x3_1 x6_4 t319 _ A16.out).mono ?_);rintro e w' ⟨rfl,⟨nd,rfl⟩⟩;have p320 : 0 ≤ (t319 : Int):=of_decide_eq_true (by first|(with_reducible assumption)|assumption);have q320 : t319 < (l0.length : Int):=of_decide_eq_true (by first|(with_reducible assumption)|assumption);obtain ⟨ad320,e320,hx320_0⟩:=Kd.at_int HR0.out t319 p320 q320;obtain rfl : ad316 = ad320:=(by injection e320);replace p320:=eq_true p320;replace q320:=eq_true q320))
                       go_ret
                       exact ⟨by first|rfl|(simp;done)|(simp [*];done),by repeat (first|exact Drawn0.refl _|apply Drawn0.step)⟩
                      ·
                       rw [if_neg c19] at H
                       have c19b0 : ((rd l0 t319) == 0) = false:=beq_eq_false_iff_ne.mpr c19
                       have c19b1 : ((rd l0 t319) != 0) = true:=bne_iff_ne.mpr c19
                       have H':=Aside0.mk H;clear H
                       go_wp2_with (first|((with_reducible refine gate_callee (f:=28) rfl ?_);refine goesL_ (some 34) rfl rfl Try.func28 (by kernel_rfl) rfl #[.int .i64 x3_1,.int .i64 x4_2] rfl (by (try simp only [List.map_toArray,List.map_cons,List.map_nil]);first|done|rfl|(simp only [List.length_drop,List.length_take];rfl)) ?_;(with_reducible refine (spec_PlaceOf.calls x3_1 x4_2 t315 _ A8.out).mono ?_);rintro e w' ⟨rfl,⟨nd,rfl⟩⟩;refine ⟨_,rfl,?_⟩;have p316 : 0 ≤ (t315 : Int):=of_decide_eq_true (by first|(with_reducible assumption)|assumption);have q316 : t315 < (l0.length : Int):=of_decide_eq_true (by first|(with_reducible assumption)|assumption);obtain ⟨ad316,e316,hx316_0⟩:=Kd.at_int HR0.out t315 p316 q316;cases e316;replace p316:=eq_true p316;replace q316:=eq_true q316)|(go_at_call 28;(with_reducible refine (spec_PlaceOf.calls x3_1 x5_3 t317 _ A12.out).mono ?_);rintro e w' ⟨rfl,⟨nd,rfl⟩⟩;have p318 : 0 ≤ (t317 : Int):=of_decide_eq_true (by first|(with_reducible assumption)|assumption);have q318 : t317 < (l0.length : Int):=of_decide_eq_true (by first|(with_reducible assumption)|assumption);obtain ⟨ad318,e318,hx318_0⟩:=Kd.at_int HR0.out t317 p318 q318;obtain rfl : ad316 = ad318:=(by injection e318);replace p318:=eq_true p318;replace q318:=eq_true q318)|(go_at_call 28;(with_reducible refine (spec_PlaceOf.calls x3_1 x6_4 t319 _ A16.out).mono ?_);rintro e w' ⟨rfl,⟨nd,rfl⟩⟩;have p320 : 0 ≤ (t319 : Int):=of_decide_eq_true (by first|(with_reducible assumption)|assumption);have q320 : t319 < (l0.length : Int):=of_decide_eq_true (by first|(with_reducible assumption)|assumption);obtain ⟨ad320,e320,hx320_0⟩:=Kd.at_int HR0.out t319 p320 q320;obtain rfl : ad316 = ad320:=(by injection e320);replace p320:=eq_true p320;replace q320:=eq_true q320))
                       go_roundg k4
                       case measure => have:=HK1.out;have:=HK2.out;have:=HK3.out;have:=HK4.out;omega
                       case rel => exact ⟨(wrap64 (x6_4 + 1)),(by first|rfl|(simp;done)|(simp [*];done)),H',⟨by have:=HK1.out;have:=HK2.out;have:=HK3.out;have:=HK4.out;omega⟩,by repeat (first|exact Drawn0.refl _|apply Drawn0.step)⟩
                     ·
                      rw [if_neg c18] at H
                      exact absurd H (by simp)
                    ·
                     rw [if_neg c17] at H
                     exact absurd H (by simp)
                   ·
                    rw [if_neg c15] at H
                    have c15b0 : ((rd l0 t317) == 1) = false:=beq_eq_false_iff_ne.mpr c15
                    have c15b1 : ((rd l0 t317) != 1) = true:=bne_iff_ne.mpr c15
                    have H':=Aside0.mk H;clear H
                    go_wp2_with (first|((with_reducible refine gate_callee (f:=28) rfl ?_);refine goesL_ (some 34) rfl rfl Try.func28 (by kernel_rfl) rfl #[.int .i64 x3_1,.int .i64 x4_2] rfl (by (try simp only [List.map_toArray,List.map_cons,List.map_nil]);first|done|rfl|(simp only [List.length_drop,List.length_take];rfl)) ?_;(with_reducible refine (spec_PlaceOf.calls x3_1 x4_2 t315 _ A8.out).mono ?_);rintro e w' ⟨rfl,⟨nd,rfl⟩⟩;refine ⟨_,rfl,?_⟩;have p316 : 0 ≤ (t315 : Int):=of_decide_eq_true (by first|(with_reducible assumption)|assumption);have q316 : t315 < (l0.length : Int):=of_decide_eq_true (by first|(with_reducible assumption)|assumption);obtain ⟨ad316,e316,hx316_0⟩:=Kd.at_int HR0.out t315 p316 q316;cases e316;replace p316:=eq_true p316;replace q316:=eq_true q316)|(go_at_call 28;(with_reducible refine (spec_PlaceOf.calls x3_1 x5_3 t317 _ A12.out).mono ?_);rintro e w' ⟨rfl,⟨nd,rfl⟩⟩;have p318 : 0 ≤ (t317 : Int):=of_decide_eq_true (by first|(with_reducible assumption)|assumption);have q318 : t317 < (l0.length : Int):=of_decide_eq_true (by first|(with_reducible assumption)|assumption);obtain ⟨ad318,e318,hx318_0⟩:=Kd.at_int HR0.out t317 p318 q318;obtain rfl : ad316 = ad318:=(by injection e318);replace p318:=eq_true p318;replace q318:=eq_true q318))
                    go_roundg k4
                    case measure => have:=HK1.out;have:=HK2.out;have:=HK3.out;have:=HK4.out;omega
                    case rel => exact ⟨(wrap64 (x6_4 + 1)),(by first|rfl|(simp;done)|(simp [*];done)),H',⟨by have:=HK1.out;have:=HK2.out;have:=HK3.out;have:=HK4.out;omega⟩,by repeat (first|exact Drawn0.refl _|apply Drawn0.step)⟩
                  ·
                   rw [if_neg c14] at H
                   exact absurd H (by simp)
                 ·
                  rw [if_neg c13] at H
                  exact absurd H (by simp)
                ·
                 rw [if_neg c11] at H
                 have c11b0 : ((rd l0 t315) == 1) = false:=beq_eq_false_iff_ne.mpr c11
                 have c11b1 : ((rd l0 t315) != 1) = true:=bne_iff_ne.mpr c11
                 have H':=Aside0.mk H;clear H
                 go_wp2_with (first|((with_reducible refine gate_callee (f:=28) rfl ?_);refine goesL_ (some 34) rfl rfl Try.func28 (by kernel_rfl) rfl #[.int .i64 x3_1,.int .i64 x4_2] rfl (by (try simp only [List.map_toArray,List.map_cons,List.map_nil]);first|done|rfl|(simp only [List.length_drop,List.length_take];rfl)) ?_;(with_reducible refine (spec_PlaceOf.calls x3_1 x4_2 t315 _ A8.out).mono ?_);rintro e w' ⟨rfl,⟨nd,rfl⟩⟩;refine ⟨_,rfl,?_⟩;have p316 : 0 ≤ (t315 : Int):=of_decide_eq_true (by first|(with_reducible assumption)|assumption);have q316 : t315 < (l0.length : Int):=of_decide_eq_true (by first|(with_reducible assumption)|assumption);obtain ⟨ad316,e316,hx316_0⟩:=Kd.at_int HR0.out t315 p316 q316;cases e316;replace p316:=eq_true p316;replace q316:=eq_true q316))
                 go_roundg k4
                 case measure => have:=HK1.out;have:=HK2.out;have:=HK3.out;have:=HK4.out;omega
                 case rel => exact ⟨(wrap64 (x6_4 + 1)),(by first|rfl|(simp;done)|(simp [*];done)),H',⟨by have:=HK1.out;have:=HK2.out;have:=HK3.out;have:=HK4.out;omega⟩,by repeat (first|exact Drawn0.refl _|apply Drawn0.step)⟩
               ·
                rw [if_neg c10] at H
                exact absurd H (by simp)
              ·
               rw [if_neg c9] at H
               exact absurd H (by simp)
             ·
              rw [if_neg c7] at H
              have c7b0 : decide (x6_4 ≤ x5_3) = false:=decide_eq_false c7;clear c7
              have H':=Aside0.mk H;clear H
              go_wp2
              go_roundg k4
              case measure => have:=HK1.out;have:=HK2.out;have:=HK3.out;have:=HK4.out;omega
              case rel => exact ⟨(wrap64 (x5_3 + 1)),(by first|rfl|(simp;done)|(simp [*];done)),H',⟨by have:=HK1.out;have:=HK2.out;have:=HK3.out;have:=HK4.out;omega⟩,by repeat (first|exact Drawn0.refl _|apply Drawn0.step)⟩
          ·
           rw [if_neg c6] at H
           have c6b0 : decide (x5_3 ≤ x3_1) = false:=decide_eq_false c6;clear c6
           have H':=Aside0.mk H;clear H
           go_wp2
           go_roundg k3
           case measure => have:=HK1.out;have:=HK2.out;have:=HK3.out;omega
           case rel => exact ⟨(wrap64 (x4_2 + 1)),(by first|rfl|(simp;done)|(simp [*];done)),H',⟨by have:=HK1.out;have:=HK2.out;have:=HK3.out;omega⟩,by repeat (first|exact Drawn0.refl _|apply Drawn0.step)⟩
       ·
        rw [if_neg c5] at H
        have c5b0 : decide (x4_2 ≤ x3_1) = false:=decide_eq_false c5;clear c5
        have H':=Aside0.mk H;clear H
        go_wp2
        go_roundg k2
        case measure => have:=HK1.out;have:=HK2.out;omega
        case rel => exact ⟨(wrap64 (x3_1 + 1)),(by first|rfl|(simp;done)|(simp [*];done)),H',⟨by have:=HK1.out;have:=HK2.out;omega⟩,by repeat (first|exact Drawn0.refl _|apply Drawn0.step)⟩
    ·
     rw [if_neg c4] at H
     have c4b0 : decide (x3_1 ≤ 5) = false:=decide_eq_false c4;clear c4
     obtain rfl:=Option.some.inj H
     go_wp2
     go_ret
     exact ⟨by first|rfl|(simp;done)|(simp [*];done),by repeat (first|exact Drawn0.refl _|apply Drawn0.step)⟩
 ·
  replace c3:=Bool.eq_false_iff.mpr c3;subst c3
  have H1 : (some false) = some r:=by rw [if_neg (show ¬ (false = true) by decide)] at H;exact H
  clear H;have H:=H1;clear H1
  obtain rfl:=Option.some.inj H
  go_enter Try.func27,Try.ntmps27
  go_wp2_with (first|((with_reducible refine gate_callee (f:=17) rfl ?_);refine goesL_ (some 8) rfl rfl Try.func17 (by kernel_rfl) rfl #[.slice A0 l0.length c0] rfl (by (try simp only [List.map_toArray,List.map_cons,List.map_nil]);first|done|rfl|(simp only [List.length_drop,List.length_take];rfl)) ?_;(with_reducible refine (spec_TriangleOk.calls k _ _ l0 false _ ?side1 ?side2 A2.out).mono ?_);(case side1 => repeat (first|exact HR0.out|(with_reducible refine Kd.C_alloc ?_ _)|(with_reducible refine Kd.C_drewN ?_ _)|(with_reducible refine Kd.C_drew ?_)));(case side2 => exact HC0.out);rintro e w' ⟨rfl,⟨nd,rfl⟩⟩;refine ⟨_,rfl,?_⟩))
  go_ret
  exact ⟨by first|rfl|(simp;done)|(simp [*];done),by repeat (first|exact Drawn0.refl _|apply Drawn0.step)⟩

end Go.Proofs.Ytmeamfkjfpaciaa.PA
