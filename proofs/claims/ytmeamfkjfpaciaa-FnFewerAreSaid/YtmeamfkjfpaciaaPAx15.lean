/- The machine side of functions of this seat, written by the session's program myprint.py: for each Go function a Lean function and the proof that the call answers just it. -/
import Derived.Test.YtmeamfkjfpaciaaPAx0
import Derived.Test.YtmeamfkjfpaciaaUp
import Derived.Test.YtmeamfkjfpaciaaPAx13
import Derived.Test.YtmeamfkjfpaciaaPAx14
namespace Go.Proofs.Ytmeamfkjfpaciaa.PA
open Go.RowKit Go.Proofs.YtmeamfkjfpaciaaW.PrintWords Go.Proofs.YtmeamfkjfpaciaaW.PrintLast Go.Proofs.YtmeamfkjfpaciaaW.PrintMore
attribute [local go_sem] max2_int min2_int max_two min_two max_three min_three max_four min_four   -- for this text's walks alone
set_option linter.unusedVariables false
set_option linter.unusedSimpArgs false

/-! ### impl_between: function 25 -/
def impl_between.l0 : Nat → List Int → List Int → List Int → Int → Int → Option (Bool)
 | 0,_,_,_,_,_ => none
 | k + 1,x0,x3,x4,x12,x13 => if x13 < x12 then (if 0 ≤ x13 then (if x13 < (x3.length : Int) then (if x13 < (x4.length : Int) then (if x13 < (x0.length : Int) then (if (Go.bits .and .i64 (rd x3 x13) (rd x4 x13)) = (rd x0 x13) then (impl_between.l0 k x0 x3 x4 x12 (wrap64 (x13 + 1))) else (some false)) else (none)) else (none)) else (none)) else (none)) else (some true)
def impl_between.f (k : Nat) (l0 : List Int) : Option (Bool):=(impl_splitOf.f l0).bind fun bt297 => (impl_between.l0 k l0 bt297.1 bt297.2 (l0.length : Int) 0)
theorem impl_between.mono_l : ∀ k,(∀ y0 y1 y2 y3 y4,LeO (impl_between.l0 k y0 y1 y2 y3 y4) (impl_between.l0 (k + 1) y0 y1 y2 y3 y4))
 | 0 => fun _ _ _ _ _ r h => by simp [impl_between.l0] at h
 | k + 1 => by
  have ih0:=impl_between.mono_l k
  ·
   intro y0 y1 y2 y3 y4
   unfold impl_between.l0
   repeat' first
   | (with_reducible exact ih0 _ _ _ _ _)
   | (with_reducible exact LeO.refl _)
   | (with_reducible exact LeO.none _)
   | (with_reducible refine LeO.ite ?_ ?_)
   | (with_reducible refine LeO.bind ?_ (fun _ => ?_))
   | exact ih0 _ _ _ _ _
   | exact LeO.none _
   | refine LeO.ite ?_ ?_
   | refine LeO.bind ?_ (fun _ => ?_)
theorem impl_between.mono : ∀ a0 k,LeO (impl_between.f k a0) (impl_between.f (k + 1) a0):=by
 intro a0 k
 have ih0:=impl_between.mono_l k
 unfold impl_between.f
 repeat' first
   | (with_reducible exact ih0 _ _ _ _ _)
   | (with_reducible exact LeO.refl _)
   | (with_reducible exact LeO.none _)
   | (with_reducible refine LeO.ite ?_ ?_)
   | (with_reducible refine LeO.bind ?_ (fun _ => ?_))
   | exact ih0 _ _ _ _ _
   | exact LeO.none _
   | refine LeO.ite ?_ ?_
   | refine LeO.bind ?_ (fun _ => ?_)
set_option maxHeartbeats 8000000 in
set_option maxRecDepth 100000 in
theorem impl_between.calls (k : Nat) (A0 : Option Addr) (c0 : Nat) (l0 : List Int) (r : Bool) (w : World) (hr0 : Kd.C (Kd.int .i64) w A0 l0.length l0) (hc0 : l0.length ≤ c0) (h : impl_between.f k l0 = some r) :
  Calls Try.prog 25 #[.slice A0 l0.length c0] w fun e w' => e = .returned (.bool r) ∧ Below w.heap.size w w':=by
 have HR0:=Aside0.mk hr0
 have HC0:=Aside0.mk hc0;clear hr0 hc0;have HB:=Aside0.mk (Below.refl w.heap.size w)
 have H : ((impl_splitOf.f l0).bind fun bt297 => (impl_between.l0 k l0 bt297.1 bt297.2 (l0.length : Int) 0)) = some r:=h;clear h
 replace H:=Option.bind_eq_some_iff.mp H
 obtain ⟨⟨t297,t298⟩,A20,H⟩:=H
 replace H : (impl_between.l0 k l0 t297 t298 (l0.length : Int) 0) = some r:=H
 have A2:=Aside0.mk A20;clear A20
 have H':=Aside0.mk H;clear H
 go_enter Try.func25,Try.ntmps25
 go_wp2_with (first|(go_at_call 26;(with_reducible refine (impl_splitOf.calls _ _ l0 t297 t298 _ ?side1 ?side2 A2.out).mono ?_);(case side1 => repeat (first|exact HR0.out|(with_reducible refine Kd.C_alloc ?_ _)|(with_reducible refine Kd.C_drewN ?_ _)|(with_reducible refine Kd.C_drew ?_)));(case side2 => exact HC0.out);rintro e w3 ⟨v299,v301,rfl,ho0,ho1,hb⟩;have n0_:=Aside0.mk (Kd.R_lower ho0 (below_size (belU HB.out)));have n1_:=Aside0.mk (Kd.R_lower ho1 (below_size (belU HB.out)));have n2_:=Aside0.mk (below_step (belU HB.out) hb);clear HB;have HO300:=n0_;have HO302:=n1_;have HB:=n2_;clear n0_ n1_ n2_;(try clear hb);(try clear hb2);(try clear hk);(try clear hi);(try clear ho0);(try clear ho1)))
 repeat (go_quiet (first|(go_at_call 26;(with_reducible refine (impl_splitOf.calls _ _ l0 t297 t298 _ ?side1 ?side2 A2.out).mono ?_);(case side1 => repeat (first|exact HR0.out|(with_reducible refine Kd.C_alloc ?_ _)|(with_reducible refine Kd.C_drewN ?_ _)|(with_reducible refine Kd.C_drew ?_)));(case side2 => exact HC0.out);rintro e w3 ⟨v299,v301,rfl,ho0,ho1,hb⟩;have n0_:=Aside0.mk (Kd.R_lower ho0 (below_size (belU HB.out)));have n1_:=Aside0.mk (Kd.R_lower ho1 (below_size (belU HB.out)));have n2_:=Aside0.mk (below_step (belU HB.out) hb);clear HB;have HO300:=n0_;have HO302:=n1_;have HB:=n2_;clear n0_ n1_ n2_;(try clear hb);(try clear hb2);(try clear hk);(try clear hi);(try clear ho0);(try clear ho1)));try go_wp2_with (first|(go_at_call 26;(with_reducible refine (impl_splitOf.calls _ _ l0 t297 t298 _ ?side1 ?side2 A2.out).mono ?_);(case side1 => repeat (first|exact HR0.out|(with_reducible refine Kd.C_alloc ?_ _)|(with_reducible refine Kd.C_drewN ?_ _)|(with_reducible refine Kd.C_drew ?_)));(case side2 => exact HC0.out);rintro e w3 ⟨v299,v301,rfl,ho0,ho1,hb⟩;have n0_:=Aside0.mk (Kd.R_lower ho0 (below_size (belU HB.out)));have n1_:=Aside0.mk (Kd.R_lower ho1 (below_size (belU HB.out)));have n2_:=Aside0.mk (below_step (belU HB.out) hb);clear HB;have HO300:=n0_;have HO302:=n1_;have HB:=n2_;clear n0_ n1_ n2_;(try clear hb);(try clear hb2);(try clear hk);(try clear hi);(try clear ho0);(try clear ho1))))
 go_loopg [13] k (fun kq v13 w' => ∃ (x13_1 : Int),v13 = .int .i64 x13_1 ∧ Aside0 (impl_between.l0 kq l0 t297 t298 (l0.length : Int) x13_1 = some r) ∧ Aside0 (kq ≤ k) ∧ Aside0 (Kd.R (Kd.int .i64) 3 w' w.heap.size (fun k_ => some k_ ≠ (v301 : Value).ownBlock) v299 t297) ∧ Aside0 (Kd.R (Kd.int .i64) 3 w' w.heap.size (fun k_ => some k_ ≠ (v299 : Value).ownBlock) v301 t298) ∧ Aside0 (Below w.heap.size w w'))
 case atStart => exact ⟨(0),(by first|rfl|(simp;done)|(simp [*];done)),H',⟨Nat.le_refl _⟩,⟨rU HO300.out⟩,⟨rU HO302.out⟩,⟨belU HB.out⟩⟩
 case round =>
  clear H'
  try clear c2
  try clear p2
  obtain ⟨x13_1,rfl,HA,HK1,HO_3,HO_4,HB⟩:=hrel
  cases gk with
  | zero => exact absurd HA.out (by simp [impl_between.l0])
  | succ k1 =>
   have H:=HA.out;clear HA
   simp only [impl_between.l0] at H
   by_cases c4 : x13_1 < (l0.length : Int)
   ·
    rw [if_pos c4] at H
    have c4b0 : decide (x13_1 < (l0.length : Int)) = true:=decide_eq_true c4;clear c4
    by_cases c5 : 0 ≤ x13_1
    ·
     rw [if_pos c5] at H
     have c5b0 : decide (0 ≤ x13_1) = true:=decide_eq_true c5;clear c5
     by_cases c6 : x13_1 < (t297.length : Int)
     ·
      rw [if_pos c6] at H
      have c6b0 : decide (x13_1 < (t297.length : Int)) = true:=decide_eq_true c6;clear c6
      by_cases c7 : x13_1 < (t298.length : Int)
      ·
       rw [if_pos c7] at H
       have c7b0 : decide (x13_1 < (t298.length : Int)) = true:=decide_eq_true c7;clear c7
       by_cases c8 : x13_1 < (l0.length : Int)
       ·
        rw [if_pos c8] at H
        have c8b0 : decide (x13_1 < (l0.length : Int)) = true:=decide_eq_true c8;clear c8
        by_cases c9 : (Go.bits .and .i64 (rd t297 x13_1) (rd t298 x13_1)) = (rd l0 x13_1)
        ·
         rw [if_pos c9] at H
         have c9b0 : ((Go.bits .and .i64 (rd t297 x13_1) (rd t298 x13_1)) == (rd l0 x13_1)) = true:=beq_iff_eq.mpr c9
         have c9b1 : ((Go.bits .and .i64 (rd t297 x13_1) (rd t298 x13_1)) != (rd l0 x13_1)) = false:=bne_eq_false_iff_eq.mpr c9;clear c9
         have H':=Aside0.mk H;clear H
         obtain ⟨Ao10,co10,eo10⟩:=Kd.R_slice HO_3.out;subst eo10
         have p303 : 0 ≤ (x13_1 : Int):=of_decide_eq_true (by first|(with_reducible assumption)|assumption)
         have q303 : x13_1 < (t297.length : Int):=of_decide_eq_true (by first|(with_reducible assumption)|assumption)
         obtain ⟨ad303,e303,hx303_0⟩:=Kd.at_int (Kd.R_reads' HO_3.out).2.2 x13_1 p303 q303
         cases e303
         replace p303:=eq_true p303
         replace q303:=eq_true q303
         obtain ⟨Ao11,co11,eo11⟩:=Kd.R_slice HO_4.out;subst eo11
         have p304 : 0 ≤ (x13_1 : Int):=of_decide_eq_true (by first|(with_reducible assumption)|assumption)
         have q304 : x13_1 < (t298.length : Int):=of_decide_eq_true (by first|(with_reducible assumption)|assumption)
         obtain ⟨ad304,e304,hx304_0⟩:=Kd.at_int (Kd.R_reads' HO_4.out).2.2 x13_1 p304 q304
         cases e304
         replace p304:=eq_true p304
         replace q304:=eq_true q304
         have p305 : 0 ≤ (x13_1 : Int):=of_decide_eq_true (by first|(with_reducible assumption)|assumption)
         have q305 : x13_1 < (l0.length : Int):=of_decide_eq_true (by first|(with_reducible assumption)|assumption)
         obtain ⟨ad305,e305,hx305_0⟩:=Kd.at_int HR0.out x13_1 p305 q305
         cases e305
         replace hx305_0:=(HB.out.cell (World.block_lt_of_cell? w _ hx305_0)).trans hx305_0
         replace p305:=eq_true p305
         replace q305:=eq_true q305
         go_wp2
         repeat (go_quiet (fail);try go_wp2)
         go_roundg k1
         case measure => have:=HK1.out;omega
         case rel => exact ⟨(wrap64 (x13_1 + 1)),(by first|rfl|(simp;done)|(simp [*];done)),H',⟨by have:=HK1.out;omega⟩,⟨rU HO_3.out⟩,⟨rU HO_4.out⟩,⟨belU HB.out⟩⟩
        ·
         rw [if_neg c9] at H
         have c9b0 : ((Go.bits .and .i64 (rd t297 x13_1) (rd t298 x13_1)) == (rd l0 x13_1)) = false:=beq_eq_false_iff_ne.mpr c9
         have c9b1 : ((Go.bits .and .i64 (rd t297 x13_1) (rd t298 x13_1)) != (rd l0 x13_1)) = true:=bne_iff_ne.mpr c9
         obtain rfl:=Option.some.inj H
         obtain ⟨Ao12,co12,eo12⟩:=Kd.R_slice HO_3.out;subst eo12
         have p303 : 0 ≤ (x13_1 : Int):=of_decide_eq_true (by first|(with_reducible assumption)|assumption)
         have q303 : x13_1 < (t297.length : Int):=of_decide_eq_true (by first|(with_reducible assumption)|assumption)
         obtain ⟨ad303,e303,hx303_0⟩:=Kd.at_int (Kd.R_reads' HO_3.out).2.2 x13_1 p303 q303
         cases e303
         replace p303:=eq_true p303
         replace q303:=eq_true q303
         obtain ⟨Ao13,co13,eo13⟩:=Kd.R_slice HO_4.out;subst eo13
         have p304 : 0 ≤ (x13_1 : Int):=of_decide_eq_true (by first|(with_reducible assumption)|assumption)
         have q304 : x13_1 < (t298.length : Int):=of_decide_eq_true (by first|(with_reducible assumption)|assumption)
         obtain ⟨ad304,e304,hx304_0⟩:=Kd.at_int (Kd.R_reads' HO_4.out).2.2 x13_1 p304 q304
         cases e304
         replace p304:=eq_true p304
         replace q304:=eq_true q304
         have p305 : 0 ≤ (x13_1 : Int):=of_decide_eq_true (by first|(with_reducible assumption)|assumption)
         have q305 : x13_1 < (l0.length : Int):=of_decide_eq_true (by first|(with_reducible assumption)|assumption)
         obtain ⟨ad305,e305,hx305_0⟩:=Kd.at_int HR0.out x13_1 p305 q305
         cases e305
         replace hx305_0:=(HB.out.cell (World.block_lt_of_cell? w _ hx305_0)).trans hx305_0
         replace p305:=eq_true p305
         replace q305:=eq_true q305
         go_wp2
         repeat (go_quiet (fail);try go_wp2)
         go_ret
         exact ⟨by first|rfl|(simp [errW_none,errW_some] <;> rfl)|(simp [*,errW_none,errW_some] <;> rfl),belU HB.out⟩
       ·
        rw [if_neg c8] at H
        exact absurd H (by simp)
      ·
       rw [if_neg c7] at H
       exact absurd H (by simp)
     ·
      rw [if_neg c6] at H
      exact absurd H (by simp)
    ·
     rw [if_neg c5] at H
     exact absurd H (by simp)
   ·
    rw [if_neg c4] at H
    have c4b0 : decide (x13_1 < (l0.length : Int)) = false:=decide_eq_false c4;clear c4
    obtain rfl:=Option.some.inj H
    go_wp2
    repeat (go_quiet (fail);try go_wp2)
    go_ret
    exact ⟨by first|rfl|(simp [errW_none,errW_some] <;> rfl)|(simp [*,errW_none,errW_some] <;> rfl),belU HB.out⟩

/-! ### impl_SplitOf: function 6 -/
def impl_SplitOf.f (k : Nat) (l0 : List Int) : Option (List Int × List Int × Bool):=(impl_isTriangle.f k l0).bind fun t306 => (if t306 = true then ((impl_between.f k l0).bind fun t307 => (if t307 = true then ((impl_splitOf.f l0).bind fun bt308 => (some (bt308.1,bt308.2,true))) else (some (([] : List Int),([] : List Int),false)))) else (some (([] : List Int),([] : List Int),false)))
theorem impl_SplitOf.mono : ∀ a0 k,LeO (impl_SplitOf.f k a0) (impl_SplitOf.f (k + 1) a0):=by
 intro a0 k
 unfold impl_SplitOf.f
 repeat' first
   | (with_reducible exact impl_between.mono _ _)
   | (with_reducible exact impl_isTriangle.mono _ _)
   | (with_reducible exact LeO.refl _)
   | (with_reducible exact LeO.none _)
   | (with_reducible refine LeO.ite ?_ ?_)
   | (with_reducible refine LeO.bind ?_ (fun _ => ?_))
   | exact impl_between.mono _ _
   | exact impl_isTriangle.mono _ _
   | exact LeO.none _
   | refine LeO.ite ?_ ?_
   | refine LeO.bind ?_ (fun _ => ?_)
set_option maxHeartbeats 8000000 in
set_option maxRecDepth 100000 in
theorem impl_SplitOf.calls (k : Nat) (A0 : Option Addr) (c0 : Nat) (l0 : List Int) (r1 : List Int) (r2 : List Int) (r3 : Bool) (w : World) (hr0 : Kd.C (Kd.int .i64) w A0 l0.length l0) (hc0 : l0.length ≤ c0) (h : impl_SplitOf.f k l0 = some (r1,r2,r3)) :
  Calls Try.prog 6 #[.slice A0 l0.length c0] w fun e w' => ∃ v0_ v1_ : Value,e = .returned (.tuple #[v0_,v1_,.bool r3]) ∧ Kd.R (Kd.int .i64) 3 w' w.heap.size (fun k_ => some k_ ≠ (v1_ : Value).ownBlock) v0_ r1 ∧ Kd.R (Kd.int .i64) 3 w' w.heap.size (fun k_ => some k_ ≠ (v0_ : Value).ownBlock) v1_ r2 ∧ Below w.heap.size w w':=by
 have HR0:=Aside0.mk hr0
 have HC0:=Aside0.mk hc0;clear hr0 hc0;have HB:=Aside0.mk (Below.refl w.heap.size w)
 have H : ((impl_isTriangle.f k l0).bind fun t306 => (if t306 = true then ((impl_between.f k l0).bind fun t307 => (if t307 = true then ((impl_splitOf.f l0).bind fun bt308 => (some (bt308.1,bt308.2,true))) else (some (([] : List Int),([] : List Int),false)))) else (some (([] : List Int),([] : List Int),false)))) = some (r1,r2,r3):=h;clear h
 replace H:=Option.bind_eq_some_iff.mp H
 obtain ⟨t306,A20,H⟩:=H
 replace H : (if t306 = true then ((impl_between.f k l0).bind fun t307 => (if t307 = true then ((impl_splitOf.f l0).bind fun bt308 => (some (bt308.1,bt308.2,true))) else (some (([] : List Int),([] : List Int),false)))) else (some (([] : List Int),([] : List Int),false))) = some (r1,r2,r3):=H
 have A2:=Aside0.mk A20;clear A20
 by_cases c3 : t306 = true
 ·
  subst c3
  have H1 : ((impl_between.f k l0).bind fun t307 => (if t307 = true then ((impl_splitOf.f l0).bind fun bt308 => (some (bt308.1,bt308.2,true))) else (some (([] : List Int),([] : List Int),false)))) = some (r1,r2,r3):=by rw [if_pos rfl] at H;exact H
  clear H;have H:=H1;clear H1
  replace H:=Option.bind_eq_some_iff.mp H
  obtain ⟨t307,A40,H⟩:=H
  replace H : (if t307 = true then ((impl_splitOf.f l0).bind fun bt308 => (some (bt308.1,bt308.2,true))) else (some (([] : List Int),([] : List Int),false))) = some (r1,r2,r3):=H
  have A4:=Aside0.mk A40;clear A40
  by_cases c5 : t307 = true
  ·
   subst c5
   have H1 : ((impl_splitOf.f l0).bind fun bt308 => (some (bt308.1,bt308.2,true))) = some (r1,r2,r3):=by rw [if_pos rfl] at H;exact H
   clear H;have H:=H1;clear H1
   replace H:=Option.bind_eq_some_iff.mp H
   obtain ⟨⟨t308,t309⟩,A60,H⟩:=H
   replace H : (some (t308,t309,true)) = some (r1,r2,r3):=H
   have A6:=Aside0.mk A60;clear A60
   simp only [Option.some.injEq,Prod.mk.injEq] at H
   obtain ⟨rfl,rfl,rfl⟩:=H
   go_enter Try.func6,Try.ntmps6
   go_wp2_with (first|((with_reducible refine gate_callee (f:=24) rfl ?_);refine goesL_ (some 8) rfl rfl Try.func24 (by kernel_rfl) rfl #[.slice A0 l0.length c0] rfl (by (try simp only [List.map_toArray,List.map_cons,List.map_nil]);first|done|rfl|(simp only [List.length_drop,List.length_take];rfl)) ?_;(with_reducible refine (impl_isTriangle.calls k _ _ l0 true _ ?side1 ?side2 A2.out).mono ?_);(case side1 => repeat (first|exact HR0.out|(with_reducible refine Kd.C_alloc ?_ _)|(with_reducible refine Kd.C_drewN ?_ _)|(with_reducible refine Kd.C_drew ?_)));(case side2 => exact HC0.out);rintro e w' ⟨rfl,⟨nd,rfl⟩⟩;refine ⟨_,rfl,?_⟩)|(go_at_call 25;(with_reducible refine (impl_between.calls k _ _ l0 true _ ?side1 ?side2 A4.out).mono ?_);(case side1 => repeat (first|exact HR0.out|(with_reducible refine Kd.C_alloc ?_ _)|(with_reducible refine Kd.C_drewN ?_ _)|(with_reducible refine Kd.C_drew ?_)));(case side2 => exact HC0.out);rintro e w7 ⟨rfl,hb⟩;have n0_:=Aside0.mk (below_step (belU HB.out) hb);clear HB;have HB:=n0_;clear n0_;(try clear hb);(try clear hb2);(try clear hk);(try clear hi))|((with_reducible refine gate_callee (f:=26) rfl ?_);refine goesL_ (some 17) rfl rfl Try.func26 (by kernel_rfl) rfl #[.slice A0 l0.length c0] rfl (by (try simp only [List.map_toArray,List.map_cons,List.map_nil]);first|done|rfl|(simp only [List.length_drop,List.length_take];rfl)) ?_;(with_reducible refine (impl_splitOf.calls _ _ l0 t308 t309 _ ?side1 ?side2 A6.out).mono ?_);(case side1 => exact cU (Kd.C_below HR0.out HB.out));(case side2 => exact HC0.out);rintro e w8 ⟨v310,v312,rfl,ho0,ho1,hb⟩;refine ⟨_,rfl,?_⟩;have n0_:=Aside0.mk (Kd.R_lower ho0 (below_size (belU HB.out)));have n1_:=Aside0.mk (Kd.R_lower ho1 (below_size (belU HB.out)));have n2_:=Aside0.mk (below_step (belU HB.out) hb);clear HB;have HO311:=n0_;have HO313:=n1_;have HB:=n2_;clear n0_ n1_ n2_;(try clear hb);(try clear hb2);(try clear hk);(try clear hi);(try clear ho0);(try clear ho1)))
   go_ret3
   exact ⟨_,_,by first|rfl|(simp [errW_none,errW_some] <;> rfl)|(simp [*,errW_none,errW_some] <;> rfl),rU HO311.out,rU HO313.out,belU HB.out⟩
  ·
   replace c5:=Bool.eq_false_iff.mpr c5;subst c5
   have H1 : (some (([] : List Int),([] : List Int),false)) = some (r1,r2,r3):=by rw [if_neg (show ¬ (false = true) by decide)] at H;exact H
   clear H;have H:=H1;clear H1
   simp only [Option.some.injEq,Prod.mk.injEq] at H
   obtain ⟨rfl,rfl,rfl⟩:=H
   go_enter Try.func6,Try.ntmps6
   go_wp2_with (first|((with_reducible refine gate_callee (f:=24) rfl ?_);refine goesL_ (some 8) rfl rfl Try.func24 (by kernel_rfl) rfl #[.slice A0 l0.length c0] rfl (by (try simp only [List.map_toArray,List.map_cons,List.map_nil]);first|done|rfl|(simp only [List.length_drop,List.length_take];rfl)) ?_;(with_reducible refine (impl_isTriangle.calls k _ _ l0 true _ ?side1 ?side2 A2.out).mono ?_);(case side1 => repeat (first|exact HR0.out|(with_reducible refine Kd.C_alloc ?_ _)|(with_reducible refine Kd.C_drewN ?_ _)|(with_reducible refine Kd.C_drew ?_)));(case side2 => exact HC0.out);rintro e w' ⟨rfl,⟨nd,rfl⟩⟩;refine ⟨_,rfl,?_⟩)|(go_at_call 25;(with_reducible refine (impl_between.calls k _ _ l0 false _ ?side1 ?side2 A4.out).mono ?_);(case side1 => repeat (first|exact HR0.out|(with_reducible refine Kd.C_alloc ?_ _)|(with_reducible refine Kd.C_drewN ?_ _)|(with_reducible refine Kd.C_drew ?_)));(case side2 => exact HC0.out);rintro e w9 ⟨rfl,hb⟩;have n0_:=Aside0.mk (below_step (belU HB.out) hb);clear HB;have HB:=n0_;clear n0_;(try clear hb);(try clear hb2);(try clear hk);(try clear hi)))
   go_ret3
   exact ⟨_,_,by first|rfl|(simp [errW_none,errW_some] <;> rfl)|(simp [*,errW_none,errW_some] <;> rfl),by first|exact Kd.R_nil _ _ _ _ _|exact Kd.N_nil _ _ _ _ _|exact Kd.V_nil _ _ _ _ _|exact Kd.Q_nil _ _ _ _ _|exact Kd.S_nil _ _ _ _ _,by first|exact Kd.R_nil _ _ _ _ _|exact Kd.N_nil _ _ _ _ _|exact Kd.V_nil _ _ _ _ _|exact Kd.Q_nil _ _ _ _ _|exact Kd.S_nil _ _ _ _ _,belU HB.out⟩
 ·
  replace c3:=Bool.eq_false_iff.mpr c3;subst c3
  have H1 : (some (([] : List Int),([] : List Int),false)) = some (r1,r2,r3):=by rw [if_neg (show ¬ (false = true) by decide)] at H;exact H
  clear H;have H:=H1;clear H1
  simp only [Option.some.injEq,Prod.mk.injEq] at H
  obtain ⟨rfl,rfl,rfl⟩:=H
  go_enter Try.func6,Try.ntmps6
  go_wp2_with (first|((with_reducible refine gate_callee (f:=24) rfl ?_);refine goesL_ (some 8) rfl rfl Try.func24 (by kernel_rfl) rfl #[.slice A0 l0.length c0] rfl (by (try simp only [List.map_toArray,List.map_cons,List.map_nil]);first|done|rfl|(simp only [List.length_drop,List.length_take];rfl)) ?_;(with_reducible refine (impl_isTriangle.calls k _ _ l0 false _ ?side1 ?side2 A2.out).mono ?_);(case side1 => repeat (first|exact HR0.out|(with_reducible refine Kd.C_alloc ?_ _)|(with_reducible refine Kd.C_drewN ?_ _)|(with_reducible refine Kd.C_drew ?_)));(case side2 => exact HC0.out);rintro e w' ⟨rfl,⟨nd,rfl⟩⟩;refine ⟨_,rfl,?_⟩))
  go_ret3
  exact ⟨_,_,by first|rfl|(simp [errW_none,errW_some] <;> rfl)|(simp [*,errW_none,errW_some] <;> rfl),by first|exact Kd.R_nil _ _ _ _ _|exact Kd.N_nil _ _ _ _ _|exact Kd.V_nil _ _ _ _ _|exact Kd.Q_nil _ _ _ _ _|exact Kd.S_nil _ _ _ _ _,by first|exact Kd.R_nil _ _ _ _ _|exact Kd.N_nil _ _ _ _ _|exact Kd.V_nil _ _ _ _ _|exact Kd.Q_nil _ _ _ _ _|exact Kd.S_nil _ _ _ _ _,belU HB.out⟩

end Go.Proofs.Ytmeamfkjfpaciaa.PA
