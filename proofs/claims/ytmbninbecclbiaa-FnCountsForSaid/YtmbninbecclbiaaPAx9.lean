/- The machine side of functions of this seat, written by the session's program myprint.py: for each Go function a Lean function and the proof that the call answers just it. -/
import Derived.Test.YtmbninbecclbiaaPAx0
import Derived.Test.YtmbninbecclbiaaUp
import Derived.Test.YtmbninbecclbiaaPAx1
import Derived.Test.YtmbninbecclbiaaPAx2
import Derived.Test.YtmbninbecclbiaaPAx3
namespace Go.Proofs.Ytmbninbecclbiaa.PA
open Go.RowKit Go.Proofs.YtmbninbecclbiaaW.PrintWords Go.Proofs.YtmbninbecclbiaaW.PrintLast Go.Proofs.YtmbninbecclbiaaW.PrintMore
attribute [local go_sem] max2_int min2_int max_two min_two max_three min_three max_four min_four   -- for this text's walks alone
set_option linter.unusedVariables false
set_option linter.unusedSimpArgs false

/-! ### spec_CountsOk: function 20 -/
def spec_CountsOk.l0 : Nat → List Int → Int → Option (Bool)
 | 0,_,_ => none
 | k + 1,x0,x3 => if x3 < (x0.length : Int) then (if 0 ≤ x3 then ((spec_l1In.f (rd x0 x3) 0 99999).bind fun t215 => (if t215 = true then (spec_CountsOk.l0 k x0 (wrap64 (x3 + 1))) else (some false))) else (none)) else (some ((x0.length : Int) == 4))
def spec_CountsOk.f (k : Nat) (l0 : List Int) : Option (Bool):=spec_CountsOk.l0 k l0 0
theorem spec_CountsOk.mono_l : ∀ k,(∀ y0 y1,LeO (spec_CountsOk.l0 k y0 y1) (spec_CountsOk.l0 (k + 1) y0 y1))
 | 0 => fun _ _ r h => by simp [spec_CountsOk.l0] at h
 | k + 1 => by
  have ih0:=spec_CountsOk.mono_l k
  ·
   intro y0 y1
   unfold spec_CountsOk.l0
   repeat' first
   | (with_reducible exact ih0 _ _)
   | (with_reducible exact LeO.refl _)
   | (with_reducible exact LeO.none _)
   | (with_reducible refine LeO.ite ?_ ?_)
   | (with_reducible refine LeO.bind ?_ (fun _ => ?_))
   | exact ih0 _ _
   | exact LeO.none _
   | refine LeO.ite ?_ ?_
   | refine LeO.bind ?_ (fun _ => ?_)
theorem spec_CountsOk.mono : ∀ a0 k,LeO (spec_CountsOk.f k a0) (spec_CountsOk.f (k + 1) a0):=by
 intro a0 k
 have ih0:=spec_CountsOk.mono_l k
 unfold spec_CountsOk.f
 repeat' first
   | (with_reducible exact ih0 _ _)
   | (with_reducible exact LeO.refl _)
   | (with_reducible exact LeO.none _)
   | (with_reducible refine LeO.ite ?_ ?_)
   | (with_reducible refine LeO.bind ?_ (fun _ => ?_))
   | exact ih0 _ _
   | exact LeO.none _
   | refine LeO.ite ?_ ?_
   | refine LeO.bind ?_ (fun _ => ?_)
set_option maxHeartbeats 8000000 in
set_option maxRecDepth 100000 in
theorem spec_CountsOk.calls (k : Nat) (A0 : Option Addr) (c0 : Nat) (l0 : List Int) (r : Bool) (w : World) (hr0 : Kd.C (Kd.int .i64) w A0 l0.length l0) (hc0 : l0.length ≤ c0) (h : spec_CountsOk.f k l0 = some r) :
  Calls Try.prog 20 #[.slice A0 l0.length c0] w fun e w' => e = .returned (.bool r) ∧ Drawn0 w w':=by
 have HR0:=Aside0.mk hr0
 have HC0:=Aside0.mk hc0;clear hr0 hc0
 have H : (spec_CountsOk.l0 k l0 0) = some r:=h;clear h
 have H':=Aside0.mk H;clear H
 go_enter Try.func20,Try.ntmps20
 go_wp2
 go_loopg [3] k (fun kq v3 w' => ∃ (x3_1 : Int),v3 = .int .i64 x3_1 ∧ Aside0 (spec_CountsOk.l0 kq l0 x3_1 = some r) ∧ Aside0 (kq ≤ k) ∧ Drawn0 w w')
 case atStart => exact ⟨(0),(by first|rfl|(simp;done)|(simp [*];done)),H',⟨Nat.le_refl _⟩,by repeat (first|exact Drawn0.refl _|apply Drawn0.step)⟩
 case round =>
  clear H'
  obtain ⟨x3_1,rfl,HA,HK1,⟨m1,rfl⟩⟩:=hrel
  cases gk with
  | zero => exact absurd HA.out (by simp [spec_CountsOk.l0])
  | succ k1 =>
   have H:=HA.out;clear HA
   simp only [spec_CountsOk.l0] at H
   by_cases c2 : x3_1 < (l0.length : Int)
   ·
    rw [if_pos c2] at H
    have c2b0 : decide (x3_1 < (l0.length : Int)) = true:=decide_eq_true c2;clear c2
    by_cases c3 : 0 ≤ x3_1
    ·
     rw [if_pos c3] at H
     have c3b0 : decide (0 ≤ x3_1) = true:=decide_eq_true c3;clear c3
     replace H:=Option.bind_eq_some_iff.mp H
     obtain ⟨t215,A40,H⟩:=H
     replace H : (if t215 = true then (spec_CountsOk.l0 k1 l0 (wrap64 (x3_1 + 1))) else (some false)) = some r:=H
     have A4:=Aside0.mk A40;clear A40
     by_cases c5 : t215 = true
     ·
      subst c5
      have H1 : (spec_CountsOk.l0 k1 l0 (wrap64 (x3_1 + 1))) = some r:=by rw [if_pos rfl] at H;exact H
      clear H;have H:=H1;clear H1
      have H':=Aside0.mk H;clear H
      have p214 : 0 ≤ (x3_1 : Int):=of_decide_eq_true (by first|(with_reducible assumption)|assumption)
      have q214 : x3_1 < (l0.length : Int):=of_decide_eq_true (by first|(with_reducible assumption)|assumption)
      obtain ⟨ad214,e214,hx214_0⟩:=Kd.at_int HR0.out x3_1 p214 q214
      cases e214
      replace p214:=eq_true p214
      replace q214:=eq_true q214
      go_wp2_with (first|((with_reducible refine gate_callee (f:=49) rfl ?_);refine goesL_ (some 14) rfl rfl Try.func49 (by kernel_rfl) rfl #[.int .i64 (rd l0 x3_1),.int .i64 0,.int .i64 99999] rfl (by (try simp only [List.map_toArray,List.map_cons,List.map_nil]);first|done|rfl|(simp only [List.length_drop,List.length_take];rfl)) ?_;(with_reducible refine (spec_l1In.calls (rd l0 x3_1) 0 99999 true _ A4.out).mono ?_);rintro e w' ⟨rfl,⟨nd,rfl⟩⟩;refine ⟨_,rfl,?_⟩))
      go_roundg k1
      case measure => have:=HK1.out;omega
      case rel => exact ⟨(wrap64 (x3_1 + 1)),(by first|rfl|(simp;done)|(simp [*];done)),H',⟨by have:=HK1.out;omega⟩,by repeat (first|exact Drawn0.refl _|apply Drawn0.step)⟩
     ·
      replace c5:=Bool.eq_false_iff.mpr c5;subst c5
      have H1 : (some false) = some r:=by rw [if_neg (show ¬ (false = true) by decide)] at H;exact H
      clear H;have H:=H1;clear H1
      obtain rfl:=Option.some.inj H
      have p214 : 0 ≤ (x3_1 : Int):=of_decide_eq_true (by first|(with_reducible assumption)|assumption)
      have q214 : x3_1 < (l0.length : Int):=of_decide_eq_true (by first|(with_reducible assumption)|assumption)
      obtain ⟨ad214,e214,hx214_0⟩:=Kd.at_int HR0.out x3_1 p214 q214
      cases e214
      replace p214:=eq_true p214
      replace q214:=eq_true q214
      go_wp2_with (first|((with_reducible refine gate_callee (f:=49) rfl ?_);refine goesL_ (some 14) rfl rfl Try.func49 (by kernel_rfl) rfl #[.int .i64 (rd l0 x3_1),.int .i64 0,.int .i64 99999] rfl (by (try simp only [List.map_toArray,List.map_cons,List.map_nil]);first|done|rfl|(simp only [List.length_drop,List.length_take];rfl)) ?_;(with_reducible refine (spec_l1In.calls (rd l0 x3_1) 0 99999 false _ A4.out).mono ?_);rintro e w' ⟨rfl,⟨nd,rfl⟩⟩;refine ⟨_,rfl,?_⟩))
      go_ret
      exact ⟨by first|rfl|(simp;done)|(simp [*];done),by repeat (first|exact Drawn0.refl _|apply Drawn0.step)⟩
    ·
     rw [if_neg c3] at H
     exact absurd H (by simp)
   ·
    rw [if_neg c2] at H
    have c2b0 : decide (x3_1 < (l0.length : Int)) = false:=decide_eq_false c2;clear c2
    obtain rfl:=Option.some.inj H
    go_wp2
    go_ret
    exact ⟨by first|rfl|(simp;done)|(simp [*];done),by repeat (first|exact Drawn0.refl _|apply Drawn0.step)⟩

/-! ### spec_WeighSo: function 44 -/
def spec_WeighSo.j0 : Nat → List Int → Bool → Int → Int → Int → Option (Bool)
 | 0,_,_,_,_,_ => none
 | k + 1,x0,x15,x217000,x217001,x217002 => if x15 = true then (some false) else ((spec_l6Row.f k x217000 x217001 x217002).bind fun bt219 => ((spec_l6Dot.f k bt219.1 x0).bind fun t223 => (if t223 > 0 then (some true) else (if t223 = 0 then (some (!bt219.2)) else (some false)))))
def spec_WeighSo.f (k : Nat) (l0 : List Int) (a1_0 : Int) (a1_1 : Int) (a1_2 : Int) : Option (Bool):=(spec_CountsOk.f k l0).bind fun t217 => (if t217 = true then ((spec_WeighOk.f a1_0 a1_1 a1_2).bind fun t218 => (spec_WeighSo.j0 k l0 (!t218) a1_0 a1_1 a1_2)) else (spec_WeighSo.j0 k l0 true a1_0 a1_1 a1_2))
theorem spec_WeighSo.mono_l : ∀ k,(∀ y0 y1 y2 y3 y4,LeO (spec_WeighSo.j0 k y0 y1 y2 y3 y4) (spec_WeighSo.j0 (k + 1) y0 y1 y2 y3 y4))
 | 0 => fun _ _ _ _ _ r h => by simp [spec_WeighSo.j0] at h
 | k + 1 => by
  have ih0:=spec_WeighSo.mono_l k
  ·
   intro y0 y1 y2 y3 y4
   unfold spec_WeighSo.j0
   repeat' first
   | (with_reducible exact ih0 _ _ _ _ _)
   | (with_reducible exact spec_CountsOk.mono _ _)
   | (with_reducible exact spec_l6Dot.mono _ _ _)
   | (with_reducible exact spec_l6Row.mono _ _ _ _)
   | (with_reducible exact LeO.refl _)
   | (with_reducible exact LeO.none _)
   | (with_reducible refine LeO.ite ?_ ?_)
   | (with_reducible refine LeO.bind ?_ (fun _ => ?_))
   | exact ih0 _ _ _ _ _
   | exact spec_CountsOk.mono _ _
   | exact spec_l6Dot.mono _ _ _
   | exact spec_l6Row.mono _ _ _ _
   | exact LeO.none _
   | refine LeO.ite ?_ ?_
   | refine LeO.bind ?_ (fun _ => ?_)
theorem spec_WeighSo.mono : ∀ a0 a1 a2 a3 k,LeO (spec_WeighSo.f k a0 a1 a2 a3) (spec_WeighSo.f (k + 1) a0 a1 a2 a3):=by
 intro a0 a1 a2 a3 k
 have ih0:=spec_WeighSo.mono_l k
 unfold spec_WeighSo.f
 repeat' first
   | (with_reducible exact ih0 _ _ _ _ _)
   | (with_reducible exact spec_CountsOk.mono _ _)
   | (with_reducible exact spec_l6Dot.mono _ _ _)
   | (with_reducible exact spec_l6Row.mono _ _ _ _)
   | (with_reducible exact LeO.refl _)
   | (with_reducible exact LeO.none _)
   | (with_reducible refine LeO.ite ?_ ?_)
   | (with_reducible refine LeO.bind ?_ (fun _ => ?_))
   | exact ih0 _ _ _ _ _
   | exact spec_CountsOk.mono _ _
   | exact spec_l6Dot.mono _ _ _
   | exact spec_l6Row.mono _ _ _ _
   | exact LeO.none _
   | refine LeO.ite ?_ ?_
   | refine LeO.bind ?_ (fun _ => ?_)
set_option maxHeartbeats 8000000 in
set_option maxRecDepth 100000 in
theorem spec_WeighSo.calls (k : Nat) (A0 : Option Addr) (c0 : Nat) (l0 : List Int) (a1_0 : Int) (a1_1 : Int) (a1_2 : Int) (r : Bool) (w : World) (hr0 : Kd.C (Kd.int .i64) w A0 l0.length l0) (hc0 : l0.length ≤ c0) (h : spec_WeighSo.f k l0 a1_0 a1_1 a1_2 = some r) :
  Calls Try.prog 44 #[.slice A0 l0.length c0,.agg #[.int .i64 a1_0,.int .i64 a1_1,.int .i64 a1_2]] w fun e w' => e = .returned (.bool r) ∧ Below w.heap.size w w':=by
 have hu29:=Try.underlying29
 have HR0:=Aside0.mk hr0
 have HC0:=Aside0.mk hc0;clear hr0 hc0;have HB:=Aside0.mk (Below.refl w.heap.size w)
 have H : ((spec_CountsOk.f k l0).bind fun t217 => (if t217 = true then ((spec_WeighOk.f a1_0 a1_1 a1_2).bind fun t218 => (spec_WeighSo.j0 k l0 (!t218) a1_0 a1_1 a1_2)) else (spec_WeighSo.j0 k l0 true a1_0 a1_1 a1_2))) = some r:=h;clear h
 have HC3:=Aside0.mk H;clear H
 go_enter Try.func44,Try.ntmps44
 go_upto_region 1 with (first|((with_reducible refine gate_dst (N:=3) rfl ?_);refine box_event ?hg (N:=3) ?hd (cs:=#[.int .i64 a1_0,.int .i64 a1_1,.int .i64 a1_2]) (t:=29) ?hr ?_;(case hd => rfl);(case hg => rfl);(case hr => first|(go_simp;done)|(go_simp;rfl));intro gb216 hg w4 hbox hb;have n0_:=Aside0.mk (below_step (belU HB.out) hb);have n1_:=Aside0.mk (hbox);have n2_:=Aside0.mk ((by rw [hg];exact (below_size (belU HB.out)) : w.heap.size ≤ gb216));have n3_:=Aside0.mk ((by rw [hg];exact (below_size (belU HB.out)) : w.heap.size ≤ gb216));clear HB;have HB:=n0_;have BK216:=n1_;have GW216:=n2_;have GE216:=n3_;clear n0_ n1_ n2_ n3_ hb hbox hg))
 (try simp only [Act.put,List.setIfInBounds_toArray,List.set_cons_zero,List.set_cons_succ])
 go_cut [15] (fun v15 wc => ∃ (kq : Nat) (x15_2 : Bool),v15 = .bool x15_2 ∧ Aside0 (spec_WeighSo.j0 kq l0 x15_2 a1_0 a1_1 a1_2 = some r) ∧ Aside0 (kq ≤ k) ∧ Aside0 (wc.heap[gb216]? = some (.cells #[.int .i64 a1_0,.int .i64 a1_1,.int .i64 a1_2] 29 (0,0))) ∧ Aside0 (Below w.heap.size w wc))
 case first =>
  have H:=HC3.out;clear HC3
  replace H:=Option.bind_eq_some_iff.mp H
  obtain ⟨t217,A50,H⟩:=H
  replace H : (if t217 = true then ((spec_WeighOk.f a1_0 a1_1 a1_2).bind fun t218 => (spec_WeighSo.j0 k l0 (!t218) a1_0 a1_1 a1_2)) else (spec_WeighSo.j0 k l0 true a1_0 a1_1 a1_2)) = some r:=H
  have A5:=Aside0.mk A50;clear A50
  by_cases c6 : t217 = true
  ·
   subst c6
   have H1 : ((spec_WeighOk.f a1_0 a1_1 a1_2).bind fun t218 => (spec_WeighSo.j0 k l0 (!t218) a1_0 a1_1 a1_2)) = some r:=by rw [if_pos rfl] at H;exact H
   clear H;have H:=H1;clear H1
   replace H:=Option.bind_eq_some_iff.mp H
   obtain ⟨t218,A70,H⟩:=H
   replace H : (spec_WeighSo.j0 k l0 (!t218) a1_0 a1_1 a1_2) = some r:=H
   have A7:=Aside0.mk A70;clear A70
   have H':=Aside0.mk H;clear H
   go_wp2_with (first|((with_reducible refine gate_callee (f:=20) rfl ?_);refine goesL_ (some 9) rfl rfl Try.func20 (by kernel_rfl) rfl #[.slice A0 l0.length c0] rfl (by (try simp only [List.map_toArray,List.map_cons,List.map_nil]);first|done|rfl|(simp only [List.length_drop,List.length_take];rfl)) ?_;(with_reducible refine (spec_CountsOk.calls k _ _ l0 true _ ?side1 ?side2 A5.out).mono ?_);(case side1 => exact cU (Kd.C_below HR0.out HB.out));(case side2 => exact HC0.out);rintro e w' ⟨rfl,⟨nd,rfl⟩⟩;refine ⟨_,rfl,?_⟩;have hcz8_0 : w4.cell? ⟨gb216,0,none⟩ = some (.int .i64 a1_0):=(blk_cell BK216.out 0).trans rfl;have hcz8_1 : w4.cell? ⟨gb216,1,none⟩ = some (.int .i64 a1_1):=(blk_cell BK216.out 1).trans rfl;have hcz8_2 : w4.cell? ⟨gb216,2,none⟩ = some (.int .i64 a1_2):=(blk_cell BK216.out 2).trans rfl;have hfz8_0:=blk_frozen BK216.out 0;have hfz8_1:=blk_frozen BK216.out 1;have hfz8_2:=blk_frozen BK216.out 2)|(go_at_call 34;(with_reducible refine (spec_WeighOk.calls a1_0 a1_1 a1_2 t218 _ A7.out).mono ?_);rintro e w9 ⟨rfl,hb⟩;have n0_:=Aside0.mk (blk_below (g:=gb216) (o:=.cells #[.int .i64 a1_0,.int .i64 a1_1,.int .i64 a1_2] 29 (0,0)) (blkU BK216.out) hb);have n1_:=Aside0.mk (below_step (by repeat (first|(with_reducible first|exact HB.out|apply below_alloc|apply pw_below_drewN|apply below_drew1|refine below_set ?_ GE216.out)|exact HB.out)) hb);clear BK216 HB;have BK216:=n0_;have HB:=n1_;clear n0_ n1_;(try clear hb);(try clear hb2);(try clear hk);(try clear hi)))
   go_meet
   case rel => exact ⟨_,(!t218),(by first|rfl|(simp;done)|(simp [*];done)),H',⟨by first|omega|exact Nat.le_refl _⟩,⟨blkU BK216.out⟩,⟨by repeat (first|(with_reducible first|exact HB.out|apply below_alloc|apply pw_below_drewN|apply below_drew1|refine below_set ?_ GE216.out)|exact HB.out)⟩⟩
  ·
   replace c6:=Bool.eq_false_iff.mpr c6;subst c6
   have H1 : (spec_WeighSo.j0 k l0 true a1_0 a1_1 a1_2) = some r:=by rw [if_neg (show ¬ (false = true) by decide)] at H;exact H
   clear H;have H:=H1;clear H1
   have H':=Aside0.mk H;clear H
   go_wp2_with (first|((with_reducible refine gate_callee (f:=20) rfl ?_);refine goesL_ (some 9) rfl rfl Try.func20 (by kernel_rfl) rfl #[.slice A0 l0.length c0] rfl (by (try simp only [List.map_toArray,List.map_cons,List.map_nil]);first|done|rfl|(simp only [List.length_drop,List.length_take];rfl)) ?_;(with_reducible refine (spec_CountsOk.calls k _ _ l0 false _ ?side1 ?side2 A5.out).mono ?_);(case side1 => exact cU (Kd.C_below HR0.out HB.out));(case side2 => exact HC0.out);rintro e w' ⟨rfl,⟨nd,rfl⟩⟩;refine ⟨_,rfl,?_⟩))
   go_meet
   case rel => exact ⟨_,(true),(by first|rfl|(simp;done)|(simp [*];done)),H',⟨by first|omega|exact Nat.le_refl _⟩,⟨blkU BK216.out⟩,⟨by repeat (first|(with_reducible first|exact HB.out|apply below_alloc|apply pw_below_drewN|apply below_drew1|refine below_set ?_ GE216.out)|exact HB.out)⟩⟩
 case rest =>
  clear HC3
  try clear c2
  try clear p2
  try clear c4
  try clear c6
  try clear hcz8_0
  try clear hcz8_1
  try clear hcz8_2
  try clear hfz8_0
  try clear hfz8_1
  try clear hfz8_2
  obtain ⟨kq,x15_2,rfl,HA,HJ2,BK216,HB⟩:=hcut
  cases kq with
  | zero => exact absurd HA.out (by simp [spec_WeighSo.j0])
  | succ kj2 =>
   have H:=HA.out;clear HA
   simp only [spec_WeighSo.j0] at H
   by_cases c10 : x15_2 = true
   ·
    subst c10
    have H1 : (some false) = some r:=by rw [if_pos rfl] at H;exact H
    clear H;have H:=H1;clear H1
    obtain rfl:=Option.some.inj H
    go_wp2
    go_ret
    exact ⟨by first|rfl|(simp [errW_none,errW_some] <;> rfl)|(simp [*,errW_none,errW_some] <;> rfl),by repeat (first|(with_reducible first|exact HB.out|apply below_alloc|apply pw_below_drewN|apply below_drew1|refine below_set ?_ GE216.out)|exact HB.out)⟩
   ·
    replace c10:=Bool.eq_false_iff.mpr c10;subst c10
    have H1 : ((spec_l6Row.f kj2 a1_0 a1_1 a1_2).bind fun bt219 => ((spec_l6Dot.f kj2 bt219.1 l0).bind fun t223 => (if t223 > 0 then (some true) else (if t223 = 0 then (some (!bt219.2)) else (some false))))) = some r:=by rw [if_neg (show ¬ (false = true) by decide)] at H;exact H
    clear H;have H:=H1;clear H1
    replace H:=Option.bind_eq_some_iff.mp H
    obtain ⟨⟨t219,t222⟩,A110,H⟩:=H
    replace H : ((spec_l6Dot.f kj2 t219 l0).bind fun t223 => (if t223 > 0 then (some true) else (if t223 = 0 then (some (!t222)) else (some false)))) = some r:=H
    have A11:=Aside0.mk A110;clear A110
    replace H:=Option.bind_eq_some_iff.mp H
    obtain ⟨t223,A120,H⟩:=H
    replace H : (if t223 > 0 then (some true) else (if t223 = 0 then (some (!t222)) else (some false))) = some r:=H
    have A12:=Aside0.mk A120;clear A120
    by_cases c13 : t223 > 0
    ·
     rw [if_pos c13] at H
     have c13b0 : decide (0 < t223) = true:=decide_eq_true c13;clear c13
     obtain rfl:=Option.some.inj H
     have hcz14_0 : wc.cell? ⟨gb216,0,none⟩ = some (.int .i64 a1_0):=(blk_cell BK216.out 0).trans rfl
     have hcz14_1 : wc.cell? ⟨gb216,1,none⟩ = some (.int .i64 a1_1):=(blk_cell BK216.out 1).trans rfl
     have hcz14_2 : wc.cell? ⟨gb216,2,none⟩ = some (.int .i64 a1_2):=(blk_cell BK216.out 2).trans rfl
     have hfz14_0:=blk_frozen BK216.out 0
     have hfz14_1:=blk_frozen BK216.out 1
     have hfz14_2:=blk_frozen BK216.out 2
     go_wp2_with (first|((with_reducible refine gate_callee (f:=52) rfl ?_);refine goesL_ (some 18) rfl rfl Try.func52 (by kernel_rfl) rfl #[.agg #[.int .i64 a1_0,.int .i64 a1_1,.int .i64 a1_2]] rfl (by (try simp only [List.map_toArray,List.map_cons,List.map_nil]);first|done|rfl|(simp only [List.length_drop,List.length_take];rfl)) ?_;(with_reducible refine (spec_l6Row.calls kj2 a1_0 a1_1 a1_2 t219 t222 _ A11.out).mono ?_);rintro e w15 ⟨v220,rfl,ho0,hb⟩;refine ⟨_,rfl,?_⟩;have n0_:=Aside0.mk (Kd.R_lower ho0 (below_size (by repeat (first|(with_reducible first|exact HB.out|apply below_alloc|apply pw_below_drewN|apply below_drew1|refine below_set ?_ GE216.out)|exact HB.out))));have n1_:=Aside0.mk (blk_below (g:=gb216) (o:=.cells #[.int .i64 a1_0,.int .i64 a1_1,.int .i64 a1_2] 29 (0,0)) (blkU BK216.out) hb);have n2_:=Aside0.mk (below_step (by repeat (first|(with_reducible first|exact HB.out|apply below_alloc|apply pw_below_drewN|apply below_drew1|refine below_set ?_ GE216.out)|exact HB.out)) hb);clear BK216 HB;have HO221:=n0_;have BK216:=n1_;have HB:=n2_;clear n0_ n1_ n2_;(try clear hb);(try clear hb2);(try clear hk);(try clear hi);(try clear ho0);obtain ⟨Ao16,co16,eo16⟩:=Kd.R_slice HO221.out;subst eo16)|((with_reducible refine gate_callee (f:=61) rfl ?_);refine goesL_ (some 23) rfl rfl Try.func61 (by kernel_rfl) rfl #[.slice Ao16 t219.length co16,.slice A0 l0.length c0] rfl (by (try simp only [List.map_toArray,List.map_cons,List.map_nil]);first|done|rfl|(simp only [List.length_drop,List.length_take];rfl)) ?_;(with_reducible refine (spec_l6Dot.calls kj2 _ _ t219 _ _ l0 t223 _ ?side1 ?side2 ?side3 ?side4 A12.out).mono ?_);(case side1 => exact cU (Kd.R_reads' HO221.out).2.2);(case side2 => exact (Kd.R_reads' HO221.out).2.1);(case side3 => exact cU (Kd.C_below HR0.out HB.out));(case side4 => exact HC0.out);rintro e w' ⟨rfl,⟨nd,rfl⟩⟩;refine ⟨_,rfl,?_⟩))
     go_ret
     exact ⟨by first|rfl|(simp [errW_none,errW_some] <;> rfl)|(simp [*,errW_none,errW_some] <;> rfl),by repeat (first|(with_reducible first|exact HB.out|apply below_alloc|apply pw_below_drewN|apply below_drew1|refine below_set ?_ GE216.out)|exact HB.out)⟩
    ·
     rw [if_neg c13] at H
     have c13b0 : decide (0 < t223) = false:=decide_eq_false c13;clear c13
     by_cases c17 : t223 = 0
     ·
      rw [if_pos c17] at H
      have c17b0 : (t223 == 0) = true:=beq_iff_eq.mpr c17
      have c17b1 : (t223 != 0) = false:=bne_eq_false_iff_eq.mpr c17;clear c17
      obtain rfl:=Option.some.inj H
      have hcz18_0 : wc.cell? ⟨gb216,0,none⟩ = some (.int .i64 a1_0):=(blk_cell BK216.out 0).trans rfl
      have hcz18_1 : wc.cell? ⟨gb216,1,none⟩ = some (.int .i64 a1_1):=(blk_cell BK216.out 1).trans rfl
      have hcz18_2 : wc.cell? ⟨gb216,2,none⟩ = some (.int .i64 a1_2):=(blk_cell BK216.out 2).trans rfl
      have hfz18_0:=blk_frozen BK216.out 0
      have hfz18_1:=blk_frozen BK216.out 1
      have hfz18_2:=blk_frozen BK216.out 2
      go_wp2_with (first|((with_reducible refine gate_callee (f:=52) rfl ?_);refine goesL_ (some 18) rfl rfl Try.func52 (by kernel_rfl) rfl #[.agg #[.int .i64 a1_0,.int .i64 a1_1,.int .i64 a1_2]] rfl (by (try simp only [List.map_toArray,List.map_cons,List.map_nil]);first|done|rfl|(simp only [List.length_drop,List.length_take];rfl)) ?_;(with_reducible refine (spec_l6Row.calls kj2 a1_0 a1_1 a1_2 t219 t222 _ A11.out).mono ?_);rintro e w19 ⟨v220,rfl,ho0,hb⟩;refine ⟨_,rfl,?_⟩;have n0_:=Aside0.mk (Kd.R_lower ho0 (below_size (by repeat (first|(with_reducible first|exact HB.out|apply below_alloc|apply pw_below_drewN|apply below_drew1|refine below_set ?_ GE216.out)|exact HB.out))));have n1_:=Aside0.mk (blk_below (g:=gb216) (o:=.cells #[.int .i64 a1_0,.int .i64 a1_1,.int .i64 a1_2] 29 (0,0)) (blkU BK216.out) hb);have n2_:=Aside0.mk (below_step (by repeat (first|(with_reducible first|exact HB.out|apply below_alloc|apply pw_below_drewN|apply below_drew1|refine below_set ?_ GE216.out)|exact HB.out)) hb);clear BK216 HB;have HO221:=n0_;have BK216:=n1_;have HB:=n2_;clear n0_ n1_ n2_;(try clear hb);(try clear hb2);(try clear hk);(try clear hi);(try clear ho0);obtain ⟨Ao20,co20,eo20⟩:=Kd.R_slice HO221.out;subst eo20)|((with_reducible refine gate_callee (f:=61) rfl ?_);refine goesL_ (some 23) rfl rfl Try.func61 (by kernel_rfl) rfl #[.slice Ao20 t219.length co20,.slice A0 l0.length c0] rfl (by (try simp only [List.map_toArray,List.map_cons,List.map_nil]);first|done|rfl|(simp only [List.length_drop,List.length_take];rfl)) ?_;(with_reducible refine (spec_l6Dot.calls kj2 _ _ t219 _ _ l0 t223 _ ?side1 ?side2 ?side3 ?side4 A12.out).mono ?_);(case side1 => exact cU (Kd.R_reads' HO221.out).2.2);(case side2 => exact (Kd.R_reads' HO221.out).2.1);(case side3 => exact cU (Kd.C_below HR0.out HB.out));(case side4 => exact HC0.out);rintro e w' ⟨rfl,⟨nd,rfl⟩⟩;refine ⟨_,rfl,?_⟩))
      go_ret
      exact ⟨by first|rfl|(simp [errW_none,errW_some] <;> rfl)|(simp [*,errW_none,errW_some] <;> rfl),by repeat (first|(with_reducible first|exact HB.out|apply below_alloc|apply pw_below_drewN|apply below_drew1|refine below_set ?_ GE216.out)|exact HB.out)⟩
     ·
      rw [if_neg c17] at H
      have c17b0 : (t223 == 0) = false:=beq_eq_false_iff_ne.mpr c17
      have c17b1 : (t223 != 0) = true:=bne_iff_ne.mpr c17
      obtain rfl:=Option.some.inj H
      have hcz21_0 : wc.cell? ⟨gb216,0,none⟩ = some (.int .i64 a1_0):=(blk_cell BK216.out 0).trans rfl
      have hcz21_1 : wc.cell? ⟨gb216,1,none⟩ = some (.int .i64 a1_1):=(blk_cell BK216.out 1).trans rfl
      have hcz21_2 : wc.cell? ⟨gb216,2,none⟩ = some (.int .i64 a1_2):=(blk_cell BK216.out 2).trans rfl
      have hfz21_0:=blk_frozen BK216.out 0
      have hfz21_1:=blk_frozen BK216.out 1
      have hfz21_2:=blk_frozen BK216.out 2
      go_wp2_with (first|((with_reducible refine gate_callee (f:=52) rfl ?_);refine goesL_ (some 18) rfl rfl Try.func52 (by kernel_rfl) rfl #[.agg #[.int .i64 a1_0,.int .i64 a1_1,.int .i64 a1_2]] rfl (by (try simp only [List.map_toArray,List.map_cons,List.map_nil]);first|done|rfl|(simp only [List.length_drop,List.length_take];rfl)) ?_;(with_reducible refine (spec_l6Row.calls kj2 a1_0 a1_1 a1_2 t219 t222 _ A11.out).mono ?_);rintro e w22 ⟨v220,rfl,ho0,hb⟩;refine ⟨_,rfl,?_⟩;have n0_:=Aside0.mk (Kd.R_lower ho0 (below_size (by repeat (first|(with_reducible first|exact HB.out|apply below_alloc|apply pw_below_drewN|apply below_drew1|refine below_set ?_ GE216.out)|exact HB.out))));have n1_:=Aside0.mk (blk_below (g:=gb216) (o:=.cells #[.int .i64 a1_0,.int .i64 a1_1,.int .i64 a1_2] 29 (0,0)) (blkU BK216.out) hb);have n2_:=Aside0.mk (below_step (by repeat (first|(with_reducible first|exact HB.out|apply below_alloc|apply pw_below_drewN|apply below_drew1|refine below_set ?_ GE216.out)|exact HB.out)) hb);clear BK216 HB;have HO221:=n0_;have BK216:=n1_;have HB:=n2_;clear n0_ n1_ n2_;(try clear hb);(try clear hb2);(try clear hk);(try clear hi);(try clear ho0);obtain ⟨Ao23,co23,eo23⟩:=Kd.R_slice HO221.out;subst eo23)|((with_reducible refine gate_callee (f:=61) rfl ?_);refine goesL_ (some 23) rfl rfl Try.func61 (by kernel_rfl) rfl #[.slice Ao23 t219.length co23,.slice A0 l0.length c0] rfl (by (try simp only [List.map_toArray,List.map_cons,List.map_nil]);first|done|rfl|(simp only [List.length_drop,List.length_take];rfl)) ?_;(with_reducible refine (spec_l6Dot.calls kj2 _ _ t219 _ _ l0 t223 _ ?side1 ?side2 ?side3 ?side4 A12.out).mono ?_);(case side1 => exact cU (Kd.R_reads' HO221.out).2.2);(case side2 => exact (Kd.R_reads' HO221.out).2.1);(case side3 => exact cU (Kd.C_below HR0.out HB.out));(case side4 => exact HC0.out);rintro e w' ⟨rfl,⟨nd,rfl⟩⟩;refine ⟨_,rfl,?_⟩))
      go_ret
      exact ⟨by first|rfl|(simp [errW_none,errW_some] <;> rfl)|(simp [*,errW_none,errW_some] <;> rfl),by repeat (first|(with_reducible first|exact HB.out|apply below_alloc|apply pw_below_drewN|apply below_drew1|refine below_set ?_ GE216.out)|exact HB.out)⟩

end Go.Proofs.Ytmbninbecclbiaa.PA
