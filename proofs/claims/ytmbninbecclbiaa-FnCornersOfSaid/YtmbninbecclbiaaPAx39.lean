/- The machine side of functions of this seat, written by the session's program myprint.py: for each Go function a Lean function and the proof that the call answers just it. -/
import Derived.Test.YtmbninbecclbiaaPAx0
import Derived.Test.YtmbninbecclbiaaUp
import Derived.Test.YtmbninbecclbiaaPAx8
import Derived.Test.YtmbninbecclbiaaPAx19
import Derived.Test.YtmbninbecclbiaaPAx32
import Derived.Test.YtmbninbecclbiaaPAx34
import Derived.Test.YtmbninbecclbiaaPAx37
import Derived.Test.YtmbninbecclbiaaPAx38
namespace Go.Proofs.Ytmbninbecclbiaa.PA
open Go.RowKit Go.Proofs.YtmbninbecclbiaaW.PrintWords Go.Proofs.YtmbninbecclbiaaW.PrintLast Go.Proofs.YtmbninbecclbiaaW.PrintMore
attribute [local go_sem] max2_int min2_int max_two min_two max_three min_three max_four min_four   -- for this text's walks alone
set_option linter.unusedVariables false
set_option linter.unusedSimpArgs false

/-! ### laws_FnCornersOf: function 5 -/
mutual
def laws_FnCornersOf.l0 : Nat → List (S29) → List (List Int) → Int → Option (Bool)
 | 0,_,_,_ => none
 | k + 1,x3,x4,x5 => if x5 < (x4.length : Int) then (if 0 ≤ x5 then ((impl_CountsOk.f (rd_L2 x4 x5)).bind fun t520 => (if t520 = true then (laws_FnCornersOf.l1 k x3 x4 x5 0) else (some false))) else (none)) else ((impl_CornersOf.f ([] : List (S29))).bind fun t515 => (if (t515.length : Int) = 4 then ((laws_alive.f).bind fun t518 => (some t518)) else (some false)))
def laws_FnCornersOf.l1 : Nat → List (S29) → List (List Int) → Int → Int → Option (Bool)
 | 0,_,_,_,_ => none
 | k + 1,x3,x4,x5,x6 => if x6 < (x3.length : Int) then (if 0 ≤ x6 then (if ((rd_T29 x3 x6).f0) = 0 then (if 0 ≤ x5 then (if x5 < (x4.length : Int) then ((impl_WeighSo.f k (rd_L2 x4 x5) ((rd_T29 x3 x6).f0) ((rd_T29 x3 x6).f1) ((rd_T29 x3 x6).f2)).bind fun t524 => (if t524 = true then (laws_FnCornersOf.l1 k x3 x4 x5 (wrap64 (x6 + 1))) else (some false))) else (none)) else (none)) else (if ((rd_T29 x3 x6).f0) = 2 then (if 0 ≤ x5 then (if x5 < (x4.length : Int) then ((impl_WeighSo.f k (rd_L2 x4 x5) ((rd_T29 x3 x6).f0) ((rd_T29 x3 x6).f1) ((rd_T29 x3 x6).f2)).bind fun t528 => (if t528 = true then (laws_FnCornersOf.l1 k x3 x4 x5 (wrap64 (x6 + 1))) else (some false))) else (none)) else (none)) else (if ((rd_T29 x3 x6).f0) = 5 then (if 0 ≤ x5 then (if x5 < (x4.length : Int) then ((impl_WeighSo.f k (rd_L2 x4 x5) ((rd_T29 x3 x6).f0) ((rd_T29 x3 x6).f1) ((rd_T29 x3 x6).f2)).bind fun t532 => (if t532 = true then (laws_FnCornersOf.l1 k x3 x4 x5 (wrap64 (x6 + 1))) else (some false))) else (none)) else (none)) else (laws_FnCornersOf.l1 k x3 x4 x5 (wrap64 (x6 + 1)))))) else (none)) else (laws_FnCornersOf.l0 k x3 x4 (wrap64 (x5 + 1)))
end
def laws_FnCornersOf.f (k : Nat) (l0 : List Int) : Option (Bool):=if (l0.length : Int) > 1048576 then (some true) else ((spec_DrawCornersOf.f k l0).bind fun t505 => ((impl_CornersOf.f t505).bind fun t508 => ((spec_CornersOf.f k t505).bind fun t511 => ((laws_sameRows.f k t508 t511).bind fun t514 => (if t514 = true then (laws_FnCornersOf.l0 k t505 t508 0) else (some false))))))
theorem laws_FnCornersOf.mono_l : ∀ k,(∀ y0 y1 y2,LeO (laws_FnCornersOf.l0 k y0 y1 y2) (laws_FnCornersOf.l0 (k + 1) y0 y1 y2)) ∧ (∀ y0 y1 y2 y3,LeO (laws_FnCornersOf.l1 k y0 y1 y2 y3) (laws_FnCornersOf.l1 (k + 1) y0 y1 y2 y3))
 | 0 => ⟨fun _ _ _ r h => by simp [laws_FnCornersOf.l0] at h,fun _ _ _ _ r h => by simp [laws_FnCornersOf.l1] at h⟩
 | k + 1 => by
  obtain ⟨ih0,ih1⟩:=laws_FnCornersOf.mono_l k
  refine ⟨?_,?_⟩
  ·
   intro y0 y1 y2
   unfold laws_FnCornersOf.l0
   repeat' first
   | (with_reducible exact ih0 _ _ _)
   | (with_reducible exact ih1 _ _ _ _)
   | (with_reducible exact impl_WeighSo.mono _ _ _ _ _)
   | (with_reducible exact laws_sameRows.mono _ _ _)
   | (with_reducible exact spec_CornersOf.mono _ _)
   | (with_reducible exact spec_DrawCornersOf.mono _ _)
   | (with_reducible exact LeO.refl _)
   | (with_reducible exact LeO.none _)
   | (with_reducible refine LeO.ite ?_ ?_)
   | (with_reducible refine LeO.bind ?_ (fun _ => ?_))
   | exact ih0 _ _ _
   | exact ih1 _ _ _ _
   | exact impl_WeighSo.mono _ _ _ _ _
   | exact laws_sameRows.mono _ _ _
   | exact spec_CornersOf.mono _ _
   | exact spec_DrawCornersOf.mono _ _
   | exact LeO.none _
   | refine LeO.ite ?_ ?_
   | refine LeO.bind ?_ (fun _ => ?_)
  ·
   intro y0 y1 y2 y3
   unfold laws_FnCornersOf.l1
   repeat' first
   | (with_reducible exact ih0 _ _ _)
   | (with_reducible exact ih1 _ _ _ _)
   | (with_reducible exact impl_WeighSo.mono _ _ _ _ _)
   | (with_reducible exact laws_sameRows.mono _ _ _)
   | (with_reducible exact spec_CornersOf.mono _ _)
   | (with_reducible exact spec_DrawCornersOf.mono _ _)
   | (with_reducible exact LeO.refl _)
   | (with_reducible exact LeO.none _)
   | (with_reducible refine LeO.ite ?_ ?_)
   | (with_reducible refine LeO.bind ?_ (fun _ => ?_))
   | exact ih0 _ _ _
   | exact ih1 _ _ _ _
   | exact impl_WeighSo.mono _ _ _ _ _
   | exact laws_sameRows.mono _ _ _
   | exact spec_CornersOf.mono _ _
   | exact spec_DrawCornersOf.mono _ _
   | exact LeO.none _
   | refine LeO.ite ?_ ?_
   | refine LeO.bind ?_ (fun _ => ?_)
theorem laws_FnCornersOf.mono : ∀ a0 k,LeO (laws_FnCornersOf.f k a0) (laws_FnCornersOf.f (k + 1) a0):=by
 intro a0 k
 obtain ⟨ih0,ih1⟩:=laws_FnCornersOf.mono_l k
 unfold laws_FnCornersOf.f
 repeat' first
   | (with_reducible exact ih0 _ _ _)
   | (with_reducible exact ih1 _ _ _ _)
   | (with_reducible exact impl_WeighSo.mono _ _ _ _ _)
   | (with_reducible exact laws_sameRows.mono _ _ _)
   | (with_reducible exact spec_CornersOf.mono _ _)
   | (with_reducible exact spec_DrawCornersOf.mono _ _)
   | (with_reducible exact LeO.refl _)
   | (with_reducible exact LeO.none _)
   | (with_reducible refine LeO.ite ?_ ?_)
   | (with_reducible refine LeO.bind ?_ (fun _ => ?_))
   | exact ih0 _ _ _
   | exact ih1 _ _ _ _
   | exact impl_WeighSo.mono _ _ _ _ _
   | exact laws_sameRows.mono _ _ _
   | exact spec_CornersOf.mono _ _
   | exact spec_DrawCornersOf.mono _ _
   | exact LeO.none _
   | refine LeO.ite ?_ ?_
   | refine LeO.bind ?_ (fun _ => ?_)
def laws_FnCornersOf.T16 : Bool × List (List Nat × List Nat):=(true,[([],[]),([0],[0]),([1],[1]),([1],[1]),([2,3,1],[1,2,3]),([4,1],[1,4]),([1],[1]),([1],[1]),([6,7,1],[1,6,7]),([8,1],[1,8]),([5,9,1,1],[1,5,9]),([10,1],[1,10]),([1,11],[1,11])])
def laws_FnCornersOf.B16 : List Nat:=[0,1,3,3,15,31,3,3,195,451,1023,2047,4095]
theorem laws_FnCornersOf.tab16 : rtab .any (opsOf Try.f5 16) = laws_FnCornersOf.T16:=by kernel_rfl
theorem laws_FnCornersOf.bits16 : waitsOk laws_FnCornersOf.T16.2 laws_FnCornersOf.B16 = true:=by kernel_rfl
set_option maxHeartbeats 8000000 in
set_option maxRecDepth 100000 in
theorem laws_FnCornersOf.calls (k : Nat) (A0 : Option Addr) (c0 : Nat) (l0 : List Int) (r : Bool) (w : World) (hr0 : Kd.C (Kd.int .u8) w A0 l0.length l0) (hc0 : l0.length ≤ c0) (h : laws_FnCornersOf.f k l0 = some r) :
  Calls Try.prog 5 #[.slice A0 l0.length c0] w fun e w' => e = .returned (.bool r) ∧ Below w.heap.size w w':=by
 have hu29:=Try.underlying29
 have HR0:=Aside0.mk hr0
 have HC0:=Aside0.mk hc0;clear hr0 hc0;have HB:=Aside0.mk (Below.refl w.heap.size w)
 have H : (if (l0.length : Int) > 1048576 then (some true) else ((spec_DrawCornersOf.f k l0).bind fun t505 => ((impl_CornersOf.f t505).bind fun t508 => ((spec_CornersOf.f k t505).bind fun t511 => ((laws_sameRows.f k t508 t511).bind fun t514 => (if t514 = true then (laws_FnCornersOf.l0 k t505 t508 0) else (some false))))))) = some r:=h;clear h
 by_cases c2 : (l0.length : Int) > 1048576
 ·
  rw [if_pos c2] at H
  have c2b0 : decide (1048576 < (l0.length : Int)) = true:=decide_eq_true c2
  have c2b1 : decide (1048576 < l0.length) = true:=decide_eq_true (by omega);clear c2
  obtain rfl:=Option.some.inj H
  go_enter Try.func5,Try.ntmps5
  go_wp2
  go_ret
  exact ⟨by first|rfl|(simp [errW_none,errW_some] <;> rfl)|(simp [*,errW_none,errW_some] <;> rfl),belU HB.out⟩
 ·
  rw [if_neg c2] at H
  have c2b0 : decide (1048576 < (l0.length : Int)) = false:=decide_eq_false c2
  have c2b1 : decide (1048576 < l0.length) = false:=decide_eq_false (by omega);clear c2
  replace H:=Option.bind_eq_some_iff.mp H
  obtain ⟨t505,A30,H⟩:=H
  replace H : ((impl_CornersOf.f t505).bind fun t508 => ((spec_CornersOf.f k t505).bind fun t511 => ((laws_sameRows.f k t508 t511).bind fun t514 => (if t514 = true then (laws_FnCornersOf.l0 k t505 t508 0) else (some false))))) = some r:=H
  have A3:=Aside0.mk A30;clear A30
  replace H:=Option.bind_eq_some_iff.mp H
  obtain ⟨t508,A40,H⟩:=H
  replace H : ((spec_CornersOf.f k t505).bind fun t511 => ((laws_sameRows.f k t508 t511).bind fun t514 => (if t514 = true then (laws_FnCornersOf.l0 k t505 t508 0) else (some false)))) = some r:=H
  have A4:=Aside0.mk A40;clear A40
  replace H:=Option.bind_eq_some_iff.mp H
  obtain ⟨t511,A50,H⟩:=H
  replace H : ((laws_sameRows.f k t508 t511).bind fun t514 => (if t514 = true then (laws_FnCornersOf.l0 k t505 t508 0) else (some false))) = some r:=H
  have A5:=Aside0.mk A50;clear A50
  replace H:=Option.bind_eq_some_iff.mp H
  obtain ⟨t514,A60,H⟩:=H
  replace H : (if t514 = true then (laws_FnCornersOf.l0 k t505 t508 0) else (some false)) = some r:=H
  have A6:=Aside0.mk A60;clear A60
  by_cases c7 : t514 = true
  ·
   subst c7
   have H1 : (laws_FnCornersOf.l0 k t505 t508 0) = some r:=by rw [if_pos rfl] at H;exact H
   clear H;have H:=H1;clear H1
   have H':=Aside0.mk H;clear H
   go_enter Try.func5,Try.ntmps5
   go_wp2_with (first|((with_reducible refine gate_callee (f:=22) rfl ?_);refine goesL_ (some 12) rfl rfl Try.func22 (by kernel_rfl) rfl #[.slice A0 l0.length c0] rfl (by (try simp only [List.map_toArray,List.map_cons,List.map_nil]);first|done|rfl|(simp only [List.length_drop,List.length_take];rfl)) ?_;(with_reducible refine (spec_DrawCornersOf.calls k _ _ l0 t505 _ ?side1 ?side2 A3.out).mono ?_);(case side1 => repeat (first|exact HR0.out|(with_reducible refine Kd.C_alloc ?_ _)|(with_reducible refine Kd.C_drewN ?_ _)|(with_reducible refine Kd.C_drew ?_)));(case side2 => exact HC0.out);rintro e w8 ⟨v506,rfl,ho0,hb⟩;refine ⟨_,rfl,?_⟩;have n0_:=Aside0.mk (Kd.R_lower ho0 (below_size (belU HB.out)));have n1_:=Aside0.mk (below_step (belU HB.out) hb);clear HB;have HO507:=n0_;have HB:=n1_;clear n0_ n1_;(try clear hb);(try clear hb2);(try clear hk);(try clear hi);(try clear ho0);obtain ⟨Ao9,co9,eo9⟩:=Kd.R_slice HO507.out;subst eo9)|((with_reducible refine gate_callee (f:=23) rfl ?_);refine goesL_ (some 14) rfl rfl Try.func23 (by kernel_rfl) rfl #[.slice Ao9 t505.length co9] rfl (by (try simp only [List.map_toArray,List.map_cons,List.map_nil]);first|done|rfl|(simp only [List.length_drop,List.length_take];rfl)) ?_;(with_reducible refine (impl_CornersOf.calls _ _ t505 t508 _ ?side1 ?side2 A4.out).mono ?_);(case side1 => exact cU (Kd.R_reads' HO507.out).2.2);(case side2 => exact (Kd.R_reads' HO507.out).2.1);rintro e w10 ⟨v509,rfl,ho0,hb⟩;refine ⟨_,rfl,?_⟩;have n0_:=Aside0.mk (Kd.R_below (rU HO507.out) hb);have n1_:=Aside0.mk (Kd.N_lower (Kd.N_mono (ok':=fun k_ => some k_ ≠ (.slice Ao9 t505.length co9 : Value).ownBlock) (Kd.S_N (Kd.S_bound ho0)) (fun k_ hk_ => (Kd.fresh' (Kd.R_lt (rU HO507.out)) k_ hk_.2.1))) (below_size (belU HB.out)));have n2_:=Aside0.mk (below_step (belU HB.out) hb);clear HO507 HB;have HO507:=n0_;have HO510:=n1_;have HB:=n2_;clear n0_ n1_ n2_;(try clear hb);(try clear hb2);(try clear hk);(try clear hi);(try clear ho0))|((with_reducible refine gate_callee (f:=25) rfl ?_);refine goesL_ (some 17) rfl rfl Try.func25 (by kernel_rfl) rfl #[.slice Ao9 t505.length co9] rfl (by (try simp only [List.map_toArray,List.map_cons,List.map_nil]);first|done|rfl|(simp only [List.length_drop,List.length_take];rfl)) ?_;(with_reducible refine (spec_CornersOf.calls k _ _ t505 t511 _ ?side1 ?side2 A5.out).mono ?_);(case side1 => exact cU (Kd.R_reads' HO507.out).2.2);(case side2 => exact (Kd.R_reads' HO507.out).2.1);rintro e w11 ⟨v512,rfl,ho0,hb⟩;refine ⟨_,rfl,?_⟩;have n0_:=Aside0.mk (Kd.R_below (rU HO507.out) hb);have n1_:=Aside0.mk (Kd.N_elder' (by (with_reducible repeat (first|apply Kd.N_alloc|apply Kd.N_drewN|apply Kd.N_drew));exact HO510.out) (Kd.N_base ho0) hb);have n2_:=Aside0.mk (Kd.N_lower (Kd.N_mono (ok':=fun k_ => some k_ ≠ (.slice Ao9 t505.length co9 : Value).ownBlock ∧ some k_ ≠ (v509 : Value).ownBlock) ho0 (fun k_ hk_ => ⟨(Kd.fresh' (Kd.R_lt (rU HO507.out)) k_ hk_),(Kd.fresh' (Kd.N_lt (by (with_reducible repeat (first|apply Kd.N_alloc|apply Kd.N_drewN|apply Kd.N_drew));exact HO510.out)) k_ hk_)⟩)) (below_size (belU HB.out)));have n3_:=Aside0.mk (below_step (belU HB.out) hb);clear HO507 HO510 HB;have HO507:=n0_;have HO510:=n1_;have HO513:=n2_;have HB:=n3_;clear n0_ n1_ n2_ n3_;(try clear hb);(try clear hb2);(try clear hk);(try clear hi);(try clear ho0);obtain ⟨Ao12,co12,eo12⟩:=Kd.N_slice HO510.out;subst eo12;obtain ⟨Ao13,co13,eo13⟩:=Kd.N_slice HO513.out;subst eo13)|((with_reducible refine gate_callee (f:=24) rfl ?_);refine goesL_ (some 18) rfl rfl Try.func24 (by kernel_rfl) rfl #[.slice Ao12 t508.length co12,.slice Ao13 t511.length co13] rfl (by (try simp only [List.map_toArray,List.map_cons,List.map_nil]);first|done|rfl|(simp only [List.length_drop,List.length_take];rfl)) ?_;(with_reducible refine (laws_sameRows.calls k _ _ t508 _ _ t511 true _ ?side1 ?side2 ?side3 ?side4 A6.out).mono ?_);(case side1 => exact cU (Kd.N_reads' HO510.out).2.2);(case side2 => exact (Kd.N_reads' HO510.out).2.1);(case side3 => exact cU (Kd.N_reads' HO513.out).2.2);(case side4 => exact (Kd.N_reads' HO513.out).2.1);rintro e w' ⟨rfl,⟨nd,rfl⟩⟩;refine ⟨_,rfl,?_⟩))
   go_loopg [5] k (fun kq v5 w' => ∃ (x5_1 : Int),v5 = .int .i64 x5_1 ∧ Aside0 (laws_FnCornersOf.l0 kq t505 t508 x5_1 = some r) ∧ Aside0 (kq ≤ k) ∧ Aside0 (Kd.R k29 29 w' w.heap.size (fun _ => True) (.slice Ao9 t505.length co9) t505) ∧ Aside0 (Kd.N (Kd.slice 3 (Kd.int .i64)) 35 w' w.heap.size (fun k_ => some k_ ≠ ((.slice Ao9 t505.length co9) : Value).ownBlock) (.slice Ao12 t508.length co12) t508) ∧ Aside0 (Below w.heap.size w w'))
   case atStart => exact ⟨(0),(by first|rfl|(simp;done)|(simp [*];done)),H',⟨Nat.le_refl _⟩,⟨rU HO507.out⟩,⟨by (with_reducible repeat (first|apply Kd.N_alloc|apply Kd.N_drewN|apply Kd.N_drew));exact Kd.N_mono HO510.out (fun _ hk => hk.1)⟩,⟨belU HB.out⟩⟩
   case round =>
    clear H'
    try clear c2
    try clear c2b0
    try clear c2b1
    try clear p2
    try clear c5
    try clear c7
    obtain ⟨x5_1,rfl,HA,HK1,HO_3,HO_4,HB⟩:=hrel
    cases gk with
    | zero => exact absurd HA.out (by simp [laws_FnCornersOf.l0])
    | succ k1 =>
     have H:=HA.out;clear HA
     simp only [laws_FnCornersOf.l0] at H
     by_cases c14 : x5_1 < (t508.length : Int)
     ·
      rw [if_pos c14] at H
      have c14b0 : decide (x5_1 < (t508.length : Int)) = true:=decide_eq_true c14;clear c14
      by_cases c15 : 0 ≤ x5_1
      ·
       rw [if_pos c15] at H
       have c15b0 : decide (0 ≤ x5_1) = true:=decide_eq_true c15;clear c15
       replace H:=Option.bind_eq_some_iff.mp H
       obtain ⟨t520,A160,H⟩:=H
       replace H : (if t520 = true then (laws_FnCornersOf.l1 k1 t505 t508 x5_1 0) else (some false)) = some r:=H
       have A16:=Aside0.mk A160;clear A160
       by_cases c17 : t520 = true
       ·
        subst c17
        have H1 : (laws_FnCornersOf.l1 k1 t505 t508 x5_1 0) = some r:=by rw [if_pos rfl] at H;exact H
        clear H;have H:=H1;clear H1
        have H':=Aside0.mk H;clear H
        have p519 : 0 ≤ (x5_1 : Int):=of_decide_eq_true (by first|(with_reducible assumption)|assumption)
        have q519 : x5_1 < (t508.length : Int):=of_decide_eq_true (by first|(with_reducible assumption)|assumption)
        obtain ⟨ad519,A519_0,c519_0,e519,hx519_0,hl519_0,hi519_0⟩:=at_L2 (Kd.N_reads' HO_4.out).2.2 x5_1 p519 q519
        cases e519
        obtain ⟨ce519,hce519,hMe519,hcc519⟩:=Kd.N_get HO_4.out [] x5_1 p519 (by first|exact q519|exact of_decide_eq_true (by first|(with_reducible assumption)|assumption)|(have e_:=(Kd.N_reads' HO_4.out).1;omega))
        obtain ⟨ua519_0,uc519_0,rfl,ul519_0,ge519_0⟩:=Kd.FK_slice_open hMe519
        have hv519_0:=hcc519 0 _ rfl
        rw [Nat.add_zero,show ((Kd.slice 3 (Kd.int .i64))).sz = 1 from rfl,Nat.mul_one] at hv519_0
        replace hv519_0:=Option.some.inj (hv519_0.symm.trans hx519_0)
        injection hv519_0 with hva_ hvn_ hvc_
        rw [hva_] at ge519_0
        rw [hvc_] at ul519_0;have HL519_0:=Aside0.mk (show Kd.V (Kd.int .i64) 3 _ w.heap.size _ _ (rd_L2 t508 x5_1) from Kd.V_mk ul519_0 ge519_0);clear hva_ hvn_ hvc_ ge519_0 ul519_0 hcc519 hce519
        have HR519_0:=Aside0.mk hi519_0
        have HC519_0:=Aside0.mk hl519_0;clear hi519_0 hl519_0
        replace p519:=eq_true p519
        replace q519:=eq_true q519
        go_wp2_with (first|((with_reducible refine gate_callee (f:=26) rfl ?_);refine goesL_ (some 30) rfl rfl Try.func26 (by kernel_rfl) rfl #[.slice A519_0 (rd_L2 t508 x5_1).length c519_0] rfl (by (try simp only [List.map_toArray,List.map_cons,List.map_nil]);first|done|rfl|(simp only [List.length_drop,List.length_take];rfl)) ?_;(with_reducible refine (impl_CountsOk.calls _ _ (rd_L2 t508 x5_1) true _ ?side1 ?side2 A16.out).mono ?_);(case side1 => repeat (first|exact (by repeat (first|(with_reducible exact HR519_0.out)|(with_reducible refine Kd.C_alloc ?_ _)|(with_reducible refine Kd.C_drewN ?_ _)|(with_reducible refine Kd.C_drew ?_)|exact HR519_0.out))|(with_reducible refine Kd.C_alloc ?_ _)|(with_reducible refine Kd.C_drewN ?_ _)|(with_reducible refine Kd.C_drew ?_)));(case side2 => exact HC519_0.out);rintro e w18 ⟨rfl,hb⟩;refine ⟨_,rfl,?_⟩;have n0_:=Aside0.mk (Kd.R_below (rU HO_3.out) hb);have n1_:=Aside0.mk (Kd.N_below (by (with_reducible repeat (first|apply Kd.N_alloc|apply Kd.N_drewN|apply Kd.N_drew));exact HO_4.out) hb);have n2_:=Aside0.mk (Kd.V_below (by (with_reducible repeat (first|apply Kd.V_alloc|apply Kd.V_drewN|apply Kd.V_drew));exact HL519_0.out) hb);have n3_:=Aside0.mk (Kd.C_below (by repeat (first|(with_reducible exact HR519_0.out)|(with_reducible refine Kd.C_alloc ?_ _)|(with_reducible refine Kd.C_drewN ?_ _)|(with_reducible refine Kd.C_drew ?_)|exact HR519_0.out)) hb);have n4_:=Aside0.mk (below_step (belU HB.out) hb);clear HO_3 HO_4 HL519_0 HR519_0 HB;have HO_3:=n0_;have HO_4:=n1_;have HL519_0:=n2_;have HR519_0:=n3_;have HB:=n4_;clear n0_ n1_ n2_ n3_ n4_;(try clear hb);(try clear hb2);(try clear hk);(try clear hi)))
        go_loopg [6] k1 (fun kq v6 w' => ∃ (x6_2 : Int),v6 = .int .i64 x6_2 ∧ Aside0 (laws_FnCornersOf.l1 kq t505 t508 x5_1 x6_2 = some r) ∧ Aside0 (kq ≤ k1) ∧ Aside0 (Kd.R k29 29 w' w.heap.size (fun _ => True) (.slice Ao9 t505.length co9) t505) ∧ Aside0 (Kd.N (Kd.slice 3 (Kd.int .i64)) 35 w' w.heap.size (fun k_ => some k_ ≠ ((.slice Ao9 t505.length co9) : Value).ownBlock) (.slice (some ad519) t508.length co12) t508) ∧ Aside0 (Kd.C (Kd.int .i64) w' A519_0 (rd_L2 t508 x5_1).length (rd_L2 t508 x5_1)) ∧ Aside0 (Below w.heap.size w w'))
        case atStart => exact ⟨(0),(by first|rfl|(simp;done)|(simp [*];done)),H',⟨Nat.le_refl _⟩,⟨rU HO_3.out⟩,⟨by (with_reducible repeat (first|apply Kd.N_alloc|apply Kd.N_drewN|apply Kd.N_drew));exact HO_4.out⟩,⟨by repeat (first|(with_reducible exact HR519_0.out)|(with_reducible refine Kd.C_alloc ?_ _)|(with_reducible refine Kd.C_drewN ?_ _)|(with_reducible refine Kd.C_drew ?_)|exact HR519_0.out)⟩,⟨belU HB.out⟩⟩
        case round =>
         clear H'
         try clear c1
         try clear c2
         try clear c2b0
         try clear c2b1
         try clear p2
         try clear c5
         try clear p5
         try clear q5
         try clear hx5
         try clear c7
         try clear c14
         try clear c14b0
         try clear c15
         try clear c15b0
         try clear c17
         try clear hx519_0
         try clear p2
         try clear p519
         try clear q519
         obtain ⟨x6_2,rfl,HA,HK2,HO_3,HO_4,HR519_0,HB⟩:=hrel
         cases gk with
         | zero => exact absurd HA.out (by simp [laws_FnCornersOf.l1])
         | succ k2 =>
          have H:=HA.out;clear HA
          simp only [laws_FnCornersOf.l1] at H
          by_cases c19 : x6_2 < (t505.length : Int)
          ·
           rw [if_pos c19] at H
           have c19b0 : decide (x6_2 < (t505.length : Int)) = true:=decide_eq_true c19;clear c19
           by_cases c20 : 0 ≤ x6_2
           ·
            rw [if_pos c20] at H
            have c20b0 : decide (0 ≤ x6_2) = true:=decide_eq_true c20;clear c20
            by_cases c21 : ((rd_T29 t505 x6_2).f0) = 0
            ·
             rw [if_pos c21] at H
             have c21b0 : (((rd_T29 t505 x6_2).f0) == 0) = true:=beq_iff_eq.mpr c21
             have c21b1 : (((rd_T29 t505 x6_2).f0) != 0) = false:=bne_eq_false_iff_eq.mpr c21;clear c21
             by_cases c22 : 0 ≤ x5_1
             ·
              rw [if_pos c22] at H
              have c22b0 : decide (0 ≤ x5_1) = true:=decide_eq_true c22;clear c22
              by_cases c23 : x5_1 < (t508.length : Int)
              ·
               rw [if_pos c23] at H
               have c23b0 : decide (x5_1 < (t508.length : Int)) = true:=decide_eq_true c23;clear c23
               replace H:=Option.bind_eq_some_iff.mp H
               obtain ⟨t524,A240,H⟩:=H
               replace H : (if t524 = true then (laws_FnCornersOf.l1 k2 t505 t508 x5_1 (wrap64 (x6_2 + 1))) else (some false)) = some r:=H
               have A24:=Aside0.mk A240;clear A240
               by_cases c25 : t524 = true
               ·
                subst c25
                have H1 : (laws_FnCornersOf.l1 k2 t505 t508 x5_1 (wrap64 (x6_2 + 1))) = some r:=by rw [if_pos rfl] at H;exact H
                clear H;have H:=H1;clear H1
                have H':=Aside0.mk H;clear H
                have p521 : 0 ≤ (x6_2 : Int):=of_decide_eq_true (by first|(with_reducible assumption)|assumption)
                have q521 : x6_2 < (t505.length : Int):=of_decide_eq_true (by first|(with_reducible assumption)|assumption)
                obtain ⟨ad521,e521,hx521_0,hx521_1,hx521_2⟩:=at_T29 (Kd.R_reads' HO_3.out).2.2 x6_2 p521 q521
                cases e521
                replace p521:=eq_true p521
                replace q521:=eq_true q521
                try go_wp2
                have n0_:=Aside0.mk (Kd.R_drew HO_3.out);have n1_:=Aside0.mk (Kd.N_drew HO_4.out);have n2_:=Aside0.mk (Kd.C_drew HR519_0.out);have n3_:=Aside0.mk (below_drew1 HB.out);clear HO_3 HO_4 HR519_0 HB;have HO_3:=n0_;have HO_4:=n1_;have HR519_0:=n2_;have HB:=n3_;clear n0_ n1_ n2_ n3_
                have p522 : 0 ≤ (x5_1 : Int):=of_decide_eq_true (by first|(with_reducible assumption)|assumption)
                have q522 : x5_1 < (t508.length : Int):=of_decide_eq_true (by first|(with_reducible assumption)|assumption)
                obtain ⟨ad522,A522_0,c522_0,e522,hx522_0,hl522_0,hi522_0⟩:=at_L2 (Kd.N_reads' HO_4.out).2.2 x5_1 p522 q522
                obtain rfl : ad519 = ad522:=(by injection e522)
                obtain ⟨ce522,hce522,hMe522,hcc522⟩:=Kd.N_get HO_4.out [] x5_1 p522 (by first|exact q522|exact of_decide_eq_true (by first|(with_reducible assumption)|assumption)|(have e_:=(Kd.N_reads' HO_4.out).1;omega))
                obtain ⟨ua522_0,uc522_0,rfl,ul522_0,ge522_0⟩:=Kd.FK_slice_open hMe522
                have hv522_0:=hcc522 0 _ rfl
                rw [Nat.add_zero,show ((Kd.slice 3 (Kd.int .i64))).sz = 1 from rfl,Nat.mul_one] at hv522_0
                replace hv522_0:=Option.some.inj (hv522_0.symm.trans hx522_0)
                injection hv522_0 with hva_ hvn_ hvc_
                rw [hva_] at ge522_0
                rw [hvc_] at ul522_0;have HL522_0:=Aside0.mk (show Kd.V (Kd.int .i64) 3 _ w.heap.size _ _ (rd_L2 t508 x5_1) from Kd.V_mk ul522_0 ge522_0);clear hva_ hvn_ hvc_ ge522_0 ul522_0 hcc522 hce522
                have HR522_0:=Aside0.mk hi522_0
                have HC522_0:=Aside0.mk hl522_0;clear hi522_0 hl522_0
                replace p522:=eq_true p522
                replace q522:=eq_true q522
                have p523 : 0 ≤ (x6_2 : Int):=of_decide_eq_true (by first|(with_reducible assumption)|assumption)
                have q523 : x6_2 < (t505.length : Int):=of_decide_eq_true (by first|(with_reducible assumption)|assumption)
                obtain ⟨ad523,e523,hx523_0,hx523_1,hx523_2⟩:=at_T29 (Kd.R_reads' HO_3.out).2.2 x6_2 p523 q523
                obtain rfl : ad521 = ad523:=(by injection e523)
                replace p523:=eq_true p523
                replace q523:=eq_true q523
                refine start_ (n:=13) (S:=fun w' => w'.cell? (ad519.add (x5_1).toNat) = some (.slice A522_0 (rd_L2 t508 x5_1).length c522_0) ∧ w'.cell? (ad521.add ((x6_2).toNat * 3)) = some (.int .i64 ((rd_T29 t505 x6_2).f0)) ∧ w'.cell? ⟨(ad521.add ((x6_2).toNat * 3)).block,(ad521.add ((x6_2).toNat * 3)).off + 1,none⟩ = some (.int .i64 ((rd_T29 t505 x6_2).f1)) ∧ w'.cell? ⟨(ad521.add ((x6_2).toNat * 3)).block,(ad521.add ((x6_2).toNat * 3)).off + 2,none⟩ = some (.int .i64 ((rd_T29 t505 x6_2).f2))) (ds:=[]) #[false,false,false,false,false,false,false,false,false,false,false,false,false] (by kernel_rfl) rfl rfl ⟨hx522_0,hx523_0,hx523_1,hx523_2⟩ (fun hHeld => ?_);refine with_tabW laws_FnCornersOf.tab16 laws_FnCornersOf.bits16 (fun HT_ HW_ => ?_)
                generalize wr.drew = w26 at HO_3 HO_4 HR519_0 HB HL522_0 HR522_0 hx522_0 hx523_0 hx523_1 hx523_2 hHeld ⊢
                refine pure_ (i:=0) (N:=some 60) (v:=?_) (a':=?_) #[true,false,false,false,false,false,false,false,false,false,false,false,false] rfl rfl (any_of HT_.out (by kernel_rfl)) (fun _ _ _ h => h) (Or.inl ⟨by rfl,?_⟩) ?_ ?_;rotate_left
                ·
                 intro w'
                 go_simp
                 with_reducible rfl
                rotate_left
                ·
                 simp only [Act.put,List.setIfInBounds_toArray,List.set_cons_zero,List.set_cons_succ,i64_w,i32_w]
                 rfl
                refine pure_ (i:=1) (N:=some 61) (v:=?_) (a':=?_) #[true,true,false,false,false,false,false,false,false,false,false,false,false] rfl rfl (any_of HT_.out (by kernel_rfl)) (fun _ _ _ h => h) (Or.inl ⟨by rfl,?_⟩) ?_ ?_;rotate_left
                ·
                 intro w'
                 go_simp
                 with_reducible rfl
                rotate_left
                ·
                 simp only [Act.put,List.setIfInBounds_toArray,List.set_cons_zero,List.set_cons_succ,i64_w,i32_w]
                 rfl
                refine pure_ (i:=2) (N:=some 62) (v:=?_) (a':=?_) #[true,true,true,false,false,false,false,false,false,false,false,false,false] rfl rfl (any_of HT_.out (by kernel_rfl)) (fun _ _ _ h => h) (Or.inl ⟨by rfl,?_⟩) ?_ ?_;rotate_left
                ·
                 intro w'
                 go_simp
                 with_reducible rfl
                rotate_left
                ·
                 simp only [Act.put,List.setIfInBounds_toArray,List.set_cons_zero,List.set_cons_succ,i64_w,i32_w]
                 rfl
                refine pure_ (i:=3) (N:=some 63) (v:=?_) (a':=?_) #[true,true,true,true,false,false,false,false,false,false,false,false,false] rfl rfl (any_of HT_.out (by kernel_rfl)) (fun _ _ _ h => h) (Or.inl ⟨by rfl,?_⟩) ?_ ?_;rotate_left
                ·
                 intro w'
                 go_simp
                 with_reducible rfl
                rotate_left
                ·
                 simp only [Act.put,List.setIfInBounds_toArray,List.set_cons_zero,List.set_cons_succ,i64_w,i32_w]
                 rfl
                refine pure_ (i:=4) (N:=some 64) (v:=?_) (a':=?_) #[true,true,true,true,true,false,false,false,false,false,false,false,false] rfl rfl (any_of HT_.out (by kernel_rfl)) (fun _ _ _ h => h) (Or.inl ⟨by rfl,?_⟩) ?_ ?_;rotate_left
                ·
                 intro w'
                 go_simp
                 with_reducible rfl
                rotate_left
                ·
                 simp only [Act.put,List.setIfInBounds_toArray,List.set_cons_zero,List.set_cons_succ,i64_w,i32_w]
                 rfl
                refine pure_ (i:=6) (N:=some 66) (v:=?_) (a':=?_) #[true,true,true,true,true,false,true,false,false,false,false,false,false] rfl rfl (any_of HT_.out (by kernel_rfl)) (fun _ _ _ h => h) (Or.inl ⟨by rfl,?_⟩) ?_ ?_;rotate_left
                ·
                 intro w'
                 go_simp
                 with_reducible rfl
                rotate_left
                ·
                 simp only [Act.put,List.setIfInBounds_toArray,List.set_cons_zero,List.set_cons_succ,i64_w,i32_w]
                 rfl
                refine pure_ (i:=7) (N:=some 67) (v:=?_) (a':=?_) #[true,true,true,true,true,false,true,true,false,false,false,false,false] rfl rfl (any_of HT_.out (by kernel_rfl)) (fun _ _ _ h => h) (Or.inl ⟨by rfl,?_⟩) ?_ ?_;rotate_left
                ·
                 intro w'
                 go_simp
                 with_reducible rfl
                rotate_left
                ·
                 simp only [Act.put,List.setIfInBounds_toArray,List.set_cons_zero,List.set_cons_succ,i64_w,i32_w]
                 rfl
                refine pure_ (i:=8) (N:=some 68) (v:=?_) (a':=?_) #[true,true,true,true,true,false,true,true,true,false,false,false,false] rfl rfl (any_of HT_.out (by kernel_rfl)) (fun _ _ _ h => h) (Or.inl ⟨by rfl,?_⟩) ?_ ?_;rotate_left
                ·
                 intro w'
                 go_simp
                 with_reducible rfl
                rotate_left
                ·
                 simp only [Act.put,List.setIfInBounds_toArray,List.set_cons_zero,List.set_cons_succ,i64_w,i32_w]
                 rfl
                refine take_ (i:=5) (N:=some 65) (v:=?_) (a':=?_) #[true,true,true,true,true,true,true,true,true,false,false,false,false] rfl rfl (take_ofW HT_.out HW_.out (by kernel_rfl)) (fun _ _ _ h => h) (Or.inl ⟨by rfl,?_⟩) hHeld ?_ ?_;rotate_left
                ·
                 rintro w' ⟨s0,s1,s2,s3⟩
                 go_simp
                 with_reducible rfl
                rotate_left
                ·
                 simp only [Act.put,List.setIfInBounds_toArray,List.set_cons_zero,List.set_cons_succ,i64_w,i32_w]
                 rfl
                refine take_ (i:=9) (N:=some 69) (v:=?_) (a':=?_) #[true,true,true,true,true,true,true,true,true,true,false,false,false] rfl rfl (take_ofW HT_.out HW_.out (by kernel_rfl)) (fun _ _ _ h => h) (Or.inl ⟨by rfl,?_⟩) hHeld ?_ ?_;rotate_left
                ·
                 rintro w' ⟨s0,s1,s2,s3⟩
                 go_simp
                 with_reducible rfl
                rotate_left
                ·
                 simp only [Act.put,List.setIfInBounds_toArray,List.set_cons_zero,List.set_cons_succ,i64_w,i32_w]
                 rfl
                refine one_ (i:=10) (N:=some 70) #[true,true,true,true,true,true,true,true,true,true,true,false,false] rfl rfl (one_of HT_.out (by kernel_rfl)) (by decide) (fun K hK => ?_)
                refine goes_ Try.func18 (by kernel_rfl) rfl #[.slice A522_0 (rd_L2 t508 x5_1).length c522_0,.agg #[.int .i64 ((rd_T29 t505 x6_2).f0),.int .i64 ((rd_T29 t505 x6_2).f1),.int .i64 ((rd_T29 t505 x6_2).f2)]] (by rfl) rfl rfl (by (try simp only [List.map_toArray,List.map_cons,List.map_nil]);first|done|rfl|(simp only [List.length_drop,List.length_take];rfl)) ?_
                with_reducible refine (impl_WeighSo.calls k2 _ _ (rd_L2 t508 x5_1) ((rd_T29 t505 x6_2).f0) ((rd_T29 t505 x6_2).f1) ((rd_T29 t505 x6_2).f2) true _ ?side1 ?side2 A24.out).mono ?_
                (case side1 => repeat (first|exact (by repeat (first|(with_reducible exact HR522_0.out)|(with_reducible refine Kd.C_alloc ?_ _)|(with_reducible refine Kd.C_drewN ?_ _)|(with_reducible refine Kd.C_drew ?_)|exact HR522_0.out))|(with_reducible refine Kd.C_alloc ?_ _)|(with_reducible refine Kd.C_drewN ?_ _)|(with_reducible refine Kd.C_drew ?_)))
                (case side2 => exact HC522_0.out)
                rintro e w27 ⟨rfl,hb⟩
                have HS0_:=(hb.cell (World.block_lt_of_cell? _ _ (hHeld.1))).trans (hHeld.1)
                have HS1_:=(hb.cell (World.block_lt_of_cell? _ _ (hHeld.2.1))).trans (hHeld.2.1)
                have HS2_:=(hb.cell (World.block_lt_of_cell? _ _ (hHeld.2.2.1))).trans (hHeld.2.2.1)
                have HS3_:=(hb.cell (World.block_lt_of_cell? _ _ (hHeld.2.2.2))).trans (hHeld.2.2.2)
                refine ⟨_,rfl,?_⟩;have n0_:=Aside0.mk (Kd.R_below (rU HO_3.out) hb);have n1_:=Aside0.mk (Kd.N_below (by (with_reducible repeat (first|apply Kd.N_alloc|apply Kd.N_drewN|apply Kd.N_drew));exact HO_4.out) hb);have n2_:=Aside0.mk (Kd.V_below (by (with_reducible repeat (first|apply Kd.V_alloc|apply Kd.V_drewN|apply Kd.V_drew));exact HL522_0.out) hb);have n3_:=Aside0.mk (Kd.C_below (by repeat (first|(with_reducible exact HR519_0.out)|(with_reducible refine Kd.C_alloc ?_ _)|(with_reducible refine Kd.C_drewN ?_ _)|(with_reducible refine Kd.C_drew ?_)|exact HR519_0.out)) hb);have n4_:=Aside0.mk (Kd.C_below (by repeat (first|(with_reducible exact HR522_0.out)|(with_reducible refine Kd.C_alloc ?_ _)|(with_reducible refine Kd.C_drewN ?_ _)|(with_reducible refine Kd.C_drew ?_)|exact HR522_0.out)) hb);have n5_:=Aside0.mk (below_step (belU HB.out) hb);clear HO_3 HO_4 HL522_0 HR519_0 HR522_0 HB;have HO_3:=n0_;have HO_4:=n1_;have HL522_0:=n2_;have HR519_0:=n3_;have HR522_0:=n4_;have HB:=n5_;clear n0_ n1_ n2_ n3_ n4_ n5_
                (try clear hb)
                (try clear hb2)
                (try clear hk)
                (try clear hi)
                refine hK.out _ _ ⟨HS0_,HS1_,HS2_,HS3_⟩ (fun hHeld => ?_);clear hK K
                refine norm_ (a':=?_) ?_ ?_;rotate_left
                ·
                 show Act.put _ (some 70) _ = _
                 simp only [Act.put,List.setIfInBounds_toArray,List.set_cons_zero,List.set_cons_succ,i64_w,i32_w]
                 rfl
                refine pure_ (i:=11) (N:=some 71) (v:=?_) (a':=?_) #[true,true,true,true,true,true,true,true,true,true,true,true,false] rfl rfl (any_of HT_.out (by kernel_rfl)) (fun _ _ _ h => h) (Or.inl ⟨by rfl,?_⟩) ?_ ?_;rotate_left
                ·
                 intro w'
                 go_simp
                 with_reducible rfl
                rotate_left
                ·
                 simp only [Act.put,List.setIfInBounds_toArray,List.set_cons_zero,List.set_cons_succ,i64_w,i32_w]
                 rfl
                refine pure_ (i:=12) (N:=some 72) (v:=?_) (a':=?_) #[true,true,true,true,true,true,true,true,true,true,true,true,true] rfl rfl (any_of HT_.out (by kernel_rfl)) (fun _ _ _ h => h) (Or.inl ⟨by rfl,?_⟩) ?_ ?_;rotate_left
                ·
                 intro w'
                 go_simp
                 with_reducible rfl
                rotate_left
                ·
                 simp only [Act.put,List.setIfInBounds_toArray,List.set_cons_zero,List.set_cons_succ,i64_w,i32_w]
                 rfl
                refine done_ (done_of HT_.out (by kernel_rfl)) ?_
                try go_wp2
                go_roundg k2
                case measure => have:=HK1.out;have:=HK2.out;omega
                case rel => exact ⟨(wrap64 (x6_2 + 1)),(by first|rfl|(simp;done)|(simp [*];done)),H',⟨by have:=HK1.out;have:=HK2.out;omega⟩,⟨rU HO_3.out⟩,⟨by (with_reducible repeat (first|apply Kd.N_alloc|apply Kd.N_drewN|apply Kd.N_drew));exact HO_4.out⟩,⟨by repeat (first|(with_reducible exact HR519_0.out)|(with_reducible refine Kd.C_alloc ?_ _)|(with_reducible refine Kd.C_drewN ?_ _)|(with_reducible refine Kd.C_drew ?_)|exact HR519_0.out)⟩,⟨belU HB.out⟩⟩
               ·
                replace c25:=Bool.eq_false_iff.mpr c25;subst c25
                have H1 : (some false) = some r:=by rw [if_neg (show ¬ (false = true) by decide)] at H;exact H
                clear H;have H:=H1;clear H1
                obtain rfl:=Option.some.inj H
                have p521 : 0 ≤ (x6_2 : Int):=of_decide_eq_true (by first|(with_reducible assumption)|assumption)
                have q521 : x6_2 < (t505.length : Int):=of_decide_eq_true (by first|(with_reducible assumption)|assumption)
                obtain ⟨ad521,e521,hx521_0,hx521_1,hx521_2⟩:=at_T29 (Kd.R_reads' HO_3.out).2.2 x6_2 p521 q521
                cases e521
                replace p521:=eq_true p521
                replace q521:=eq_true q521
                try go_wp2
                have n0_:=Aside0.mk (Kd.R_drew HO_3.out);have n1_:=Aside0.mk (Kd.N_drew HO_4.out);have n2_:=Aside0.mk (Kd.C_drew HR519_0.out);have n3_:=Aside0.mk (below_drew1 HB.out);clear HO_3 HO_4 HR519_0 HB;have HO_3:=n0_;have HO_4:=n1_;have HR519_0:=n2_;have HB:=n3_;clear n0_ n1_ n2_ n3_
                have p522 : 0 ≤ (x5_1 : Int):=of_decide_eq_true (by first|(with_reducible assumption)|assumption)
                have q522 : x5_1 < (t508.length : Int):=of_decide_eq_true (by first|(with_reducible assumption)|assumption)
                obtain ⟨ad522,A522_0,c522_0,e522,hx522_0,hl522_0,hi522_0⟩:=at_L2 (Kd.N_reads' HO_4.out).2.2 x5_1 p522 q522
                obtain rfl : ad519 = ad522:=(by injection e522)
                obtain ⟨ce522,hce522,hMe522,hcc522⟩:=Kd.N_get HO_4.out [] x5_1 p522 (by first|exact q522|exact of_decide_eq_true (by first|(with_reducible assumption)|assumption)|(have e_:=(Kd.N_reads' HO_4.out).1;omega))
                obtain ⟨ua522_0,uc522_0,rfl,ul522_0,ge522_0⟩:=Kd.FK_slice_open hMe522
                have hv522_0:=hcc522 0 _ rfl
                rw [Nat.add_zero,show ((Kd.slice 3 (Kd.int .i64))).sz = 1 from rfl,Nat.mul_one] at hv522_0
                replace hv522_0:=Option.some.inj (hv522_0.symm.trans hx522_0)
                injection hv522_0 with hva_ hvn_ hvc_
                rw [hva_] at ge522_0
                rw [hvc_] at ul522_0;have HL522_0:=Aside0.mk (show Kd.V (Kd.int .i64) 3 _ w.heap.size _ _ (rd_L2 t508 x5_1) from Kd.V_mk ul522_0 ge522_0);clear hva_ hvn_ hvc_ ge522_0 ul522_0 hcc522 hce522
                have HR522_0:=Aside0.mk hi522_0
                have HC522_0:=Aside0.mk hl522_0;clear hi522_0 hl522_0
                replace p522:=eq_true p522
                replace q522:=eq_true q522
                have p523 : 0 ≤ (x6_2 : Int):=of_decide_eq_true (by first|(with_reducible assumption)|assumption)
                have q523 : x6_2 < (t505.length : Int):=of_decide_eq_true (by first|(with_reducible assumption)|assumption)
                obtain ⟨ad523,e523,hx523_0,hx523_1,hx523_2⟩:=at_T29 (Kd.R_reads' HO_3.out).2.2 x6_2 p523 q523
                obtain rfl : ad521 = ad523:=(by injection e523)
                replace p523:=eq_true p523
                replace q523:=eq_true q523
                refine start_ (n:=13) (S:=fun w' => w'.cell? (ad519.add (x5_1).toNat) = some (.slice A522_0 (rd_L2 t508 x5_1).length c522_0) ∧ w'.cell? (ad521.add ((x6_2).toNat * 3)) = some (.int .i64 ((rd_T29 t505 x6_2).f0)) ∧ w'.cell? ⟨(ad521.add ((x6_2).toNat * 3)).block,(ad521.add ((x6_2).toNat * 3)).off + 1,none⟩ = some (.int .i64 ((rd_T29 t505 x6_2).f1)) ∧ w'.cell? ⟨(ad521.add ((x6_2).toNat * 3)).block,(ad521.add ((x6_2).toNat * 3)).off + 2,none⟩ = some (.int .i64 ((rd_T29 t505 x6_2).f2))) (ds:=[]) #[false,false,false,false,false,false,false,false,false,false,false,false,false] (by kernel_rfl) rfl rfl ⟨hx522_0,hx523_0,hx523_1,hx523_2⟩ (fun hHeld => ?_);refine with_tabW laws_FnCornersOf.tab16 laws_FnCornersOf.bits16 (fun HT_ HW_ => ?_)
                generalize wr.drew = w28 at HO_3 HO_4 HR519_0 HB HL522_0 HR522_0 hx522_0 hx523_0 hx523_1 hx523_2 hHeld ⊢
                refine pure_ (i:=0) (N:=some 60) (v:=?_) (a':=?_) #[true,false,false,false,false,false,false,false,false,false,false,false,false] rfl rfl (any_of HT_.out (by kernel_rfl)) (fun _ _ _ h => h) (Or.inl ⟨by rfl,?_⟩) ?_ ?_;rotate_left
                ·
                 intro w'
                 go_simp
                 with_reducible rfl
                rotate_left
                ·
                 simp only [Act.put,List.setIfInBounds_toArray,List.set_cons_zero,List.set_cons_succ,i64_w,i32_w]
                 rfl
                refine pure_ (i:=1) (N:=some 61) (v:=?_) (a':=?_) #[true,true,false,false,false,false,false,false,false,false,false,false,false] rfl rfl (any_of HT_.out (by kernel_rfl)) (fun _ _ _ h => h) (Or.inl ⟨by rfl,?_⟩) ?_ ?_;rotate_left
                ·
                 intro w'
                 go_simp
                 with_reducible rfl
                rotate_left
                ·
                 simp only [Act.put,List.setIfInBounds_toArray,List.set_cons_zero,List.set_cons_succ,i64_w,i32_w]
                 rfl
                refine pure_ (i:=2) (N:=some 62) (v:=?_) (a':=?_) #[true,true,true,false,false,false,false,false,false,false,false,false,false] rfl rfl (any_of HT_.out (by kernel_rfl)) (fun _ _ _ h => h) (Or.inl ⟨by rfl,?_⟩) ?_ ?_;rotate_left
                ·
                 intro w'
                 go_simp
                 with_reducible rfl
                rotate_left
                ·
                 simp only [Act.put,List.setIfInBounds_toArray,List.set_cons_zero,List.set_cons_succ,i64_w,i32_w]
                 rfl
                refine pure_ (i:=3) (N:=some 63) (v:=?_) (a':=?_) #[true,true,true,true,false,false,false,false,false,false,false,false,false] rfl rfl (any_of HT_.out (by kernel_rfl)) (fun _ _ _ h => h) (Or.inl ⟨by rfl,?_⟩) ?_ ?_;rotate_left
                ·
                 intro w'
                 go_simp
                 with_reducible rfl
                rotate_left
                ·
                 simp only [Act.put,List.setIfInBounds_toArray,List.set_cons_zero,List.set_cons_succ,i64_w,i32_w]
                 rfl
                refine pure_ (i:=4) (N:=some 64) (v:=?_) (a':=?_) #[true,true,true,true,true,false,false,false,false,false,false,false,false] rfl rfl (any_of HT_.out (by kernel_rfl)) (fun _ _ _ h => h) (Or.inl ⟨by rfl,?_⟩) ?_ ?_;rotate_left
                ·
                 intro w'
                 go_simp
                 with_reducible rfl
                rotate_left
                ·
                 simp only [Act.put,List.setIfInBounds_toArray,List.set_cons_zero,List.set_cons_succ,i64_w,i32_w]
                 rfl
                refine pure_ (i:=6) (N:=some 66) (v:=?_) (a':=?_) #[true,true,true,true,true,false,true,false,false,false,false,false,false] rfl rfl (any_of HT_.out (by kernel_rfl)) (fun _ _ _ h => h) (Or.inl ⟨by rfl,?_⟩) ?_ ?_;rotate_left
                ·
                 intro w'
                 go_simp
                 with_reducible rfl
                rotate_left
                ·
                 simp only [Act.put,List.setIfInBounds_toArray,List.set_cons_zero,List.set_cons_succ,i64_w,i32_w]
                 rfl
                refine pure_ (i:=7) (N:=some 67) (v:=?_) (a':=?_) #[true,true,true,true,true,false,true,true,false,false,false,false,false] rfl rfl (any_of HT_.out (by kernel_rfl)) (fun _ _ _ h => h) (Or.inl ⟨by rfl,?_⟩) ?_ ?_;rotate_left
                ·
                 intro w'
                 go_simp
                 with_reducible rfl
                rotate_left
                ·
                 simp only [Act.put,List.setIfInBounds_toArray,List.set_cons_zero,List.set_cons_succ,i64_w,i32_w]
                 rfl
                refine pure_ (i:=8) (N:=some 68) (v:=?_) (a':=?_) #[true,true,true,true,true,false,true,true,true,false,false,false,false] rfl rfl (any_of HT_.out (by kernel_rfl)) (fun _ _ _ h => h) (Or.inl ⟨by rfl,?_⟩) ?_ ?_;rotate_left
                ·
                 intro w'
                 go_simp
                 with_reducible rfl
                rotate_left
                ·
                 simp only [Act.put,List.setIfInBounds_toArray,List.set_cons_zero,List.set_cons_succ,i64_w,i32_w]
                 rfl
                refine take_ (i:=5) (N:=some 65) (v:=?_) (a':=?_) #[true,true,true,true,true,true,true,true,true,false,false,false,false] rfl rfl (take_ofW HT_.out HW_.out (by kernel_rfl)) (fun _ _ _ h => h) (Or.inl ⟨by rfl,?_⟩) hHeld ?_ ?_;rotate_left
                ·
                 rintro w' ⟨s0,s1,s2,s3⟩
                 go_simp
                 with_reducible rfl
                rotate_left
                ·
                 simp only [Act.put,List.setIfInBounds_toArray,List.set_cons_zero,List.set_cons_succ,i64_w,i32_w]
                 rfl
                refine take_ (i:=9) (N:=some 69) (v:=?_) (a':=?_) #[true,true,true,true,true,true,true,true,true,true,false,false,false] rfl rfl (take_ofW HT_.out HW_.out (by kernel_rfl)) (fun _ _ _ h => h) (Or.inl ⟨by rfl,?_⟩) hHeld ?_ ?_;rotate_left
                ·
                 rintro w' ⟨s0,s1,s2,s3⟩
                 go_simp
                 with_reducible rfl
                rotate_left
                ·
                 simp only [Act.put,List.setIfInBounds_toArray,List.set_cons_zero,List.set_cons_succ,i64_w,i32_w]
                 rfl
                refine one_ (i:=10) (N:=some 70) #[true,true,true,true,true,true,true,true,true,true,true,false,false] rfl rfl (one_of HT_.out (by kernel_rfl)) (by decide) (fun K hK => ?_)
                refine goes_ Try.func18 (by kernel_rfl) rfl #[.slice A522_0 (rd_L2 t508 x5_1).length c522_0,.agg #[.int .i64 ((rd_T29 t505 x6_2).f0),.int .i64 ((rd_T29 t505 x6_2).f1),.int .i64 ((rd_T29 t505 x6_2).f2)]] (by rfl) rfl rfl (by (try simp only [List.map_toArray,List.map_cons,List.map_nil]);first|done|rfl|(simp only [List.length_drop,List.length_take];rfl)) ?_
                with_reducible refine (impl_WeighSo.calls k2 _ _ (rd_L2 t508 x5_1) ((rd_T29 t505 x6_2).f0) ((rd_T29 t505 x6_2).f1) ((rd_T29 t505 x6_2).f2) false _ ?side1 ?side2 A24.out).mono ?_
                (case side1 => repeat (first|exact (by repeat (first|(with_reducible exact HR522_0.out)|(with_reducible refine Kd.C_alloc ?_ _)|(with_reducible refine Kd.C_drewN ?_ _)|(with_reducible refine Kd.C_drew ?_)|exact HR522_0.out))|(with_reducible refine Kd.C_alloc ?_ _)|(with_reducible refine Kd.C_drewN ?_ _)|(with_reducible refine Kd.C_drew ?_)))
                (case side2 => exact HC522_0.out)
                rintro e w29 ⟨rfl,hb⟩
                have HS0_:=(hb.cell (World.block_lt_of_cell? _ _ (hHeld.1))).trans (hHeld.1)
                have HS1_:=(hb.cell (World.block_lt_of_cell? _ _ (hHeld.2.1))).trans (hHeld.2.1)
                have HS2_:=(hb.cell (World.block_lt_of_cell? _ _ (hHeld.2.2.1))).trans (hHeld.2.2.1)
                have HS3_:=(hb.cell (World.block_lt_of_cell? _ _ (hHeld.2.2.2))).trans (hHeld.2.2.2)
                refine ⟨_,rfl,?_⟩;have n0_:=Aside0.mk (Kd.R_below (rU HO_3.out) hb);have n1_:=Aside0.mk (Kd.N_below (by (with_reducible repeat (first|apply Kd.N_alloc|apply Kd.N_drewN|apply Kd.N_drew));exact HO_4.out) hb);have n2_:=Aside0.mk (Kd.V_below (by (with_reducible repeat (first|apply Kd.V_alloc|apply Kd.V_drewN|apply Kd.V_drew));exact HL522_0.out) hb);have n3_:=Aside0.mk (Kd.C_below (by repeat (first|(with_reducible exact HR519_0.out)|(with_reducible refine Kd.C_alloc ?_ _)|(with_reducible refine Kd.C_drewN ?_ _)|(with_reducible refine Kd.C_drew ?_)|exact HR519_0.out)) hb);have n4_:=Aside0.mk (Kd.C_below (by repeat (first|(with_reducible exact HR522_0.out)|(with_reducible refine Kd.C_alloc ?_ _)|(with_reducible refine Kd.C_drewN ?_ _)|(with_reducible refine Kd.C_drew ?_)|exact HR522_0.out)) hb);have n5_:=Aside0.mk (below_step (belU HB.out) hb);clear HO_3 HO_4 HL522_0 HR519_0 HR522_0 HB;have HO_3:=n0_;have HO_4:=n1_;have HL522_0:=n2_;have HR519_0:=n3_;have HR522_0:=n4_;have HB:=n5_;clear n0_ n1_ n2_ n3_ n4_ n5_
                (try clear hb)
                (try clear hb2)
                (try clear hk)
                (try clear hi)
                refine hK.out _ _ ⟨HS0_,HS1_,HS2_,HS3_⟩ (fun hHeld => ?_);clear hK K
                refine norm_ (a':=?_) ?_ ?_;rotate_left
                ·
                 show Act.put _ (some 70) _ = _
                 simp only [Act.put,List.setIfInBounds_toArray,List.set_cons_zero,List.set_cons_succ,i64_w,i32_w]
                 rfl
                refine pure_ (i:=11) (N:=some 71) (v:=?_) (a':=?_) #[true,true,true,true,true,true,true,true,true,true,true,true,false] rfl rfl (any_of HT_.out (by kernel_rfl)) (fun _ _ _ h => h) (Or.inl ⟨by rfl,?_⟩) ?_ ?_;rotate_left
                ·
                 intro w'
                 go_simp
                 with_reducible rfl
                rotate_left
                ·
                 simp only [Act.put,List.setIfInBounds_toArray,List.set_cons_zero,List.set_cons_succ,i64_w,i32_w]
                 rfl
                refine pure_ (i:=12) (N:=some 72) (v:=?_) (a':=?_) #[true,true,true,true,true,true,true,true,true,true,true,true,true] rfl rfl (any_of HT_.out (by kernel_rfl)) (fun _ _ _ h => h) (Or.inl ⟨by rfl,?_⟩) ?_ ?_;rotate_left
                ·
                 intro w'
                 go_simp
                 with_reducible rfl
                rotate_left
                ·
                 simp only [Act.put,List.setIfInBounds_toArray,List.set_cons_zero,List.set_cons_succ,i64_w,i32_w]
                 rfl
                refine done_ (done_of HT_.out (by kernel_rfl)) ?_
                try go_wp2
                go_ret
                exact ⟨by first|rfl|(simp [errW_none,errW_some] <;> rfl)|(simp [*,errW_none,errW_some] <;> rfl),belU HB.out⟩
              ·
               rw [if_neg c23] at H
               exact absurd H (by simp)
             ·
              rw [if_neg c22] at H
              exact absurd H (by simp)
            ·
             rw [if_neg c21] at H
             have c21b0 : (((rd_T29 t505 x6_2).f0) == 0) = false:=beq_eq_false_iff_ne.mpr c21
             have c21b1 : (((rd_T29 t505 x6_2).f0) != 0) = true:=bne_iff_ne.mpr c21
             by_cases c30 : ((rd_T29 t505 x6_2).f0) = 2
             ·
              rw [if_pos c30] at H
              have c30b0 : (((rd_T29 t505 x6_2).f0) == 2) = true:=beq_iff_eq.mpr c30
              have c30b1 : (((rd_T29 t505 x6_2).f0) != 2) = false:=bne_eq_false_iff_eq.mpr c30;clear c30
              by_cases c31 : 0 ≤ x5_1
              ·
               rw [if_pos c31] at H
               have c31b0 : decide (0 ≤ x5_1) = true:=decide_eq_true c31;clear c31
               by_cases c32 : x5_1 < (t508.length : Int)
               ·
                rw [if_pos c32] at H
                have c32b0 : decide (x5_1 < (t508.length : Int)) = true:=decide_eq_true c32;clear c32
                replace H:=Option.bind_eq_some_iff.mp H
                obtain ⟨t528,A330,H⟩:=H
                replace H : (if t528 = true then (laws_FnCornersOf.l1 k2 t505 t508 x5_1 (wrap64 (x6_2 + 1))) else (some false)) = some r:=H
                have A33:=Aside0.mk A330;clear A330
                by_cases c34 : t528 = true
                ·
                 subst c34
                 have H1 : (laws_FnCornersOf.l1 k2 t505 t508 x5_1 (wrap64 (x6_2 + 1))) = some r:=by rw [if_pos rfl] at H;exact H
                 clear H;have H:=H1;clear H1
                 have H':=Aside0.mk H;clear H
                 have p521 : 0 ≤ (x6_2 : Int):=of_decide_eq_true (by first|(with_reducible assumption)|assumption)
                 have q521 : x6_2 < (t505.length : Int):=of_decide_eq_true (by first|(with_reducible assumption)|assumption)
                 obtain ⟨ad521,e521,hx521_0,hx521_1,hx521_2⟩:=at_T29 (Kd.R_reads' HO_3.out).2.2 x6_2 p521 q521
                 cases e521
                 replace p521:=eq_true p521
                 replace q521:=eq_true q521
                 have p525 : 0 ≤ (x6_2 : Int):=of_decide_eq_true (by first|(with_reducible assumption)|assumption)
                 have q525 : x6_2 < (t505.length : Int):=of_decide_eq_true (by first|(with_reducible assumption)|assumption)
                 obtain ⟨ad525,e525,hx525_0,hx525_1,hx525_2⟩:=at_T29 (Kd.R_reads' HO_3.out).2.2 x6_2 p525 q525
                 obtain rfl : ad521 = ad525:=(by injection e525)
                 replace p525:=eq_true p525
                 replace q525:=eq_true q525
                 try go_wp2
                 have n0_:=Aside0.mk (Kd.R_drew HO_3.out);have n1_:=Aside0.mk (Kd.N_drew HO_4.out);have n2_:=Aside0.mk (Kd.C_drew HR519_0.out);have n3_:=Aside0.mk (below_drew1 HB.out);clear HO_3 HO_4 HR519_0 HB;have HO_3:=n0_;have HO_4:=n1_;have HR519_0:=n2_;have HB:=n3_;clear n0_ n1_ n2_ n3_
                 have p526 : 0 ≤ (x5_1 : Int):=of_decide_eq_true (by first|(with_reducible assumption)|assumption)
                 have q526 : x5_1 < (t508.length : Int):=of_decide_eq_true (by first|(with_reducible assumption)|assumption)
                 obtain ⟨ad526,A526_0,c526_0,e526,hx526_0,hl526_0,hi526_0⟩:=at_L2 (Kd.N_reads' HO_4.out).2.2 x5_1 p526 q526
                 obtain rfl : ad519 = ad526:=(by injection e526)
                 obtain ⟨ce526,hce526,hMe526,hcc526⟩:=Kd.N_get HO_4.out [] x5_1 p526 (by first|exact q526|exact of_decide_eq_true (by first|(with_reducible assumption)|assumption)|(have e_:=(Kd.N_reads' HO_4.out).1;omega))
                 obtain ⟨ua526_0,uc526_0,rfl,ul526_0,ge526_0⟩:=Kd.FK_slice_open hMe526
                 have hv526_0:=hcc526 0 _ rfl
                 rw [Nat.add_zero,show ((Kd.slice 3 (Kd.int .i64))).sz = 1 from rfl,Nat.mul_one] at hv526_0
                 replace hv526_0:=Option.some.inj (hv526_0.symm.trans hx526_0)
                 injection hv526_0 with hva_ hvn_ hvc_
                 rw [hva_] at ge526_0
                 rw [hvc_] at ul526_0;have HL526_0:=Aside0.mk (show Kd.V (Kd.int .i64) 3 _ w.heap.size _ _ (rd_L2 t508 x5_1) from Kd.V_mk ul526_0 ge526_0);clear hva_ hvn_ hvc_ ge526_0 ul526_0 hcc526 hce526
                 have HR526_0:=Aside0.mk hi526_0
                 have HC526_0:=Aside0.mk hl526_0;clear hi526_0 hl526_0
                 replace p526:=eq_true p526
                 replace q526:=eq_true q526
                 have p527 : 0 ≤ (x6_2 : Int):=of_decide_eq_true (by first|(with_reducible assumption)|assumption)
                 have q527 : x6_2 < (t505.length : Int):=of_decide_eq_true (by first|(with_reducible assumption)|assumption)
                 obtain ⟨ad527,e527,hx527_0,hx527_1,hx527_2⟩:=at_T29 (Kd.R_reads' HO_3.out).2.2 x6_2 p527 q527
                 obtain rfl : ad521 = ad527:=(by injection e527)
                 replace p527:=eq_true p527
                 replace q527:=eq_true q527
                 refine start_ (n:=13) (S:=fun w' => w'.cell? (ad519.add (x5_1).toNat) = some (.slice A526_0 (rd_L2 t508 x5_1).length c526_0) ∧ w'.cell? (ad521.add ((x6_2).toNat * 3)) = some (.int .i64 ((rd_T29 t505 x6_2).f0)) ∧ w'.cell? ⟨(ad521.add ((x6_2).toNat * 3)).block,(ad521.add ((x6_2).toNat * 3)).off + 1,none⟩ = some (.int .i64 ((rd_T29 t505 x6_2).f1)) ∧ w'.cell? ⟨(ad521.add ((x6_2).toNat * 3)).block,(ad521.add ((x6_2).toNat * 3)).off + 2,none⟩ = some (.int .i64 ((rd_T29 t505 x6_2).f2))) (ds:=[]) #[false,false,false,false,false,false,false,false,false,false,false,false,false] (by kernel_rfl) rfl rfl ⟨hx526_0,hx527_0,hx527_1,hx527_2⟩ (fun hHeld => ?_);refine with_tabW laws_FnCornersOf.tab16 laws_FnCornersOf.bits16 (fun HT_ HW_ => ?_)
                 generalize wr.drew = w35 at HO_3 HO_4 HR519_0 HB HL526_0 HR526_0 hx526_0 hx527_0 hx527_1 hx527_2 hHeld ⊢
                 refine pure_ (i:=0) (N:=some 60) (v:=?_) (a':=?_) #[true,false,false,false,false,false,false,false,false,false,false,false,false] rfl rfl (any_of HT_.out (by kernel_rfl)) (fun _ _ _ h => h) (Or.inl ⟨by rfl,?_⟩) ?_ ?_;rotate_left
                 ·
                  intro w'
                  go_simp
                  with_reducible rfl
                 rotate_left
                 ·
                  simp only [Act.put,List.setIfInBounds_toArray,List.set_cons_zero,List.set_cons_succ,i64_w,i32_w]
                  rfl
                 refine pure_ (i:=1) (N:=some 61) (v:=?_) (a':=?_) #[true,true,false,false,false,false,false,false,false,false,false,false,false] rfl rfl (any_of HT_.out (by kernel_rfl)) (fun _ _ _ h => h) (Or.inl ⟨by rfl,?_⟩) ?_ ?_;rotate_left
                 ·
                  intro w'
                  go_simp
                  with_reducible rfl
                 rotate_left
                 ·
                  simp only [Act.put,List.setIfInBounds_toArray,List.set_cons_zero,List.set_cons_succ,i64_w,i32_w]
                  rfl
                 refine pure_ (i:=2) (N:=some 62) (v:=?_) (a':=?_) #[true,true,true,false,false,false,false,false,false,false,false,false,false] rfl rfl (any_of HT_.out (by kernel_rfl)) (fun _ _ _ h => h) (Or.inl ⟨by rfl,?_⟩) ?_ ?_;rotate_left
                 ·
                  intro w'
                  go_simp
                  with_reducible rfl
                 rotate_left
                 ·
                  simp only [Act.put,List.setIfInBounds_toArray,List.set_cons_zero,List.set_cons_succ,i64_w,i32_w]
                  rfl
                 refine pure_ (i:=3) (N:=some 63) (v:=?_) (a':=?_) #[true,true,true,true,false,false,false,false,false,false,false,false,false] rfl rfl (any_of HT_.out (by kernel_rfl)) (fun _ _ _ h => h) (Or.inl ⟨by rfl,?_⟩) ?_ ?_;rotate_left
                 ·
                  intro w'
                  go_simp
                  with_reducible rfl
                 rotate_left
                 ·
                  simp only [Act.put,List.setIfInBounds_toArray,List.set_cons_zero,List.set_cons_succ,i64_w,i32_w]
                  rfl
                 refine pure_ (i:=4) (N:=some 64) (v:=?_) (a':=?_) #[true,true,true,true,true,false,false,false,false,false,false,false,false] rfl rfl (any_of HT_.out (by kernel_rfl)) (fun _ _ _ h => h) (Or.inl ⟨by rfl,?_⟩) ?_ ?_;rotate_left
                 ·
                  intro w'
                  go_simp
                  with_reducible rfl
                 rotate_left
                 ·
                  simp only [Act.put,List.setIfInBounds_toArray,List.set_cons_zero,List.set_cons_succ,i64_w,i32_w]
                  rfl
                 refine pure_ (i:=6) (N:=some 66) (v:=?_) (a':=?_) #[true,true,true,true,true,false,true,false,false,false,false,false,false] rfl rfl (any_of HT_.out (by kernel_rfl)) (fun _ _ _ h => h) (Or.inl ⟨by rfl,?_⟩) ?_ ?_;rotate_left
                 ·
                  intro w'
                  go_simp
                  with_reducible rfl
                 rotate_left
                 ·
                  simp only [Act.put,List.setIfInBounds_toArray,List.set_cons_zero,List.set_cons_succ,i64_w,i32_w]
                  rfl
                 refine pure_ (i:=7) (N:=some 67) (v:=?_) (a':=?_) #[true,true,true,true,true,false,true,true,false,false,false,false,false] rfl rfl (any_of HT_.out (by kernel_rfl)) (fun _ _ _ h => h) (Or.inl ⟨by rfl,?_⟩) ?_ ?_;rotate_left
                 ·
                  intro w'
                  go_simp
                  with_reducible rfl
                 rotate_left
                 ·
                  simp only [Act.put,List.setIfInBounds_toArray,List.set_cons_zero,List.set_cons_succ,i64_w,i32_w]
                  rfl
                 refine pure_ (i:=8) (N:=some 68) (v:=?_) (a':=?_) #[true,true,true,true,true,false,true,true,true,false,false,false,false] rfl rfl (any_of HT_.out (by kernel_rfl)) (fun _ _ _ h => h) (Or.inl ⟨by rfl,?_⟩) ?_ ?_;rotate_left
                 ·
                  intro w'
                  go_simp
                  with_reducible rfl
                 rotate_left
                 ·
                  simp only [Act.put,List.setIfInBounds_toArray,List.set_cons_zero,List.set_cons_succ,i64_w,i32_w]
                  rfl
                 refine take_ (i:=5) (N:=some 65) (v:=?_) (a':=?_) #[true,true,true,true,true,true,true,true,true,false,false,false,false] rfl rfl (take_ofW HT_.out HW_.out (by kernel_rfl)) (fun _ _ _ h => h) (Or.inl ⟨by rfl,?_⟩) hHeld ?_ ?_;rotate_left
                 ·
                  rintro w' ⟨s0,s1,s2,s3⟩
                  go_simp
                  with_reducible rfl
                 rotate_left
                 ·
                  simp only [Act.put,List.setIfInBounds_toArray,List.set_cons_zero,List.set_cons_succ,i64_w,i32_w]
                  rfl
                 refine take_ (i:=9) (N:=some 69) (v:=?_) (a':=?_) #[true,true,true,true,true,true,true,true,true,true,false,false,false] rfl rfl (take_ofW HT_.out HW_.out (by kernel_rfl)) (fun _ _ _ h => h) (Or.inl ⟨by rfl,?_⟩) hHeld ?_ ?_;rotate_left
                 ·
                  rintro w' ⟨s0,s1,s2,s3⟩
                  go_simp
                  with_reducible rfl
                 rotate_left
                 ·
                  simp only [Act.put,List.setIfInBounds_toArray,List.set_cons_zero,List.set_cons_succ,i64_w,i32_w]
                  rfl
                 refine one_ (i:=10) (N:=some 70) #[true,true,true,true,true,true,true,true,true,true,true,false,false] rfl rfl (one_of HT_.out (by kernel_rfl)) (by decide) (fun K hK => ?_)
                 refine goes_ Try.func18 (by kernel_rfl) rfl #[.slice A526_0 (rd_L2 t508 x5_1).length c526_0,.agg #[.int .i64 ((rd_T29 t505 x6_2).f0),.int .i64 ((rd_T29 t505 x6_2).f1),.int .i64 ((rd_T29 t505 x6_2).f2)]] (by rfl) rfl rfl (by (try simp only [List.map_toArray,List.map_cons,List.map_nil]);first|done|rfl|(simp only [List.length_drop,List.length_take];rfl)) ?_
                 with_reducible refine (impl_WeighSo.calls k2 _ _ (rd_L2 t508 x5_1) ((rd_T29 t505 x6_2).f0) ((rd_T29 t505 x6_2).f1) ((rd_T29 t505 x6_2).f2) true _ ?side1 ?side2 A33.out).mono ?_
                 (case side1 => repeat (first|exact (by repeat (first|(with_reducible exact HR526_0.out)|(with_reducible refine Kd.C_alloc ?_ _)|(with_reducible refine Kd.C_drewN ?_ _)|(with_reducible refine Kd.C_drew ?_)|exact HR526_0.out))|(with_reducible refine Kd.C_alloc ?_ _)|(with_reducible refine Kd.C_drewN ?_ _)|(with_reducible refine Kd.C_drew ?_)))
                 (case side2 => exact HC526_0.out)
                 rintro e w36 ⟨rfl,hb⟩
                 have HS0_:=(hb.cell (World.block_lt_of_cell? _ _ (hHeld.1))).trans (hHeld.1)
                 have HS1_:=(hb.cell (World.block_lt_of_cell? _ _ (hHeld.2.1))).trans (hHeld.2.1)
                 have HS2_:=(hb.cell (World.block_lt_of_cell? _ _ (hHeld.2.2.1))).trans (hHeld.2.2.1)
                 have HS3_:=(hb.cell (World.block_lt_of_cell? _ _ (hHeld.2.2.2))).trans (hHeld.2.2.2)
                 refine ⟨_,rfl,?_⟩;have n0_:=Aside0.mk (Kd.R_below (rU HO_3.out) hb);have n1_:=Aside0.mk (Kd.N_below (by (with_reducible repeat (first|apply Kd.N_alloc|apply Kd.N_drewN|apply Kd.N_drew));exact HO_4.out) hb);have n2_:=Aside0.mk (Kd.V_below (by (with_reducible repeat (first|apply Kd.V_alloc|apply Kd.V_drewN|apply Kd.V_drew));exact HL526_0.out) hb);have n3_:=Aside0.mk (Kd.C_below (by repeat (first|(with_reducible exact HR519_0.out)|(with_reducible refine Kd.C_alloc ?_ _)|(with_reducible refine Kd.C_drewN ?_ _)|(with_reducible refine Kd.C_drew ?_)|exact HR519_0.out)) hb);have n4_:=Aside0.mk (Kd.C_below (by repeat (first|(with_reducible exact HR526_0.out)|(with_reducible refine Kd.C_alloc ?_ _)|(with_reducible refine Kd.C_drewN ?_ _)|(with_reducible refine Kd.C_drew ?_)|exact HR526_0.out)) hb);have n5_:=Aside0.mk (below_step (belU HB.out) hb);clear HO_3 HO_4 HL526_0 HR519_0 HR526_0 HB;have HO_3:=n0_;have HO_4:=n1_;have HL526_0:=n2_;have HR519_0:=n3_;have HR526_0:=n4_;have HB:=n5_;clear n0_ n1_ n2_ n3_ n4_ n5_
                 (try clear hb)
                 (try clear hb2)
                 (try clear hk)
                 (try clear hi)
                 refine hK.out _ _ ⟨HS0_,HS1_,HS2_,HS3_⟩ (fun hHeld => ?_);clear hK K
                 refine norm_ (a':=?_) ?_ ?_;rotate_left
                 ·
                  show Act.put _ (some 70) _ = _
                  simp only [Act.put,List.setIfInBounds_toArray,List.set_cons_zero,List.set_cons_succ,i64_w,i32_w]
                  rfl
                 refine pure_ (i:=11) (N:=some 71) (v:=?_) (a':=?_) #[true,true,true,true,true,true,true,true,true,true,true,true,false] rfl rfl (any_of HT_.out (by kernel_rfl)) (fun _ _ _ h => h) (Or.inl ⟨by rfl,?_⟩) ?_ ?_;rotate_left
                 ·
                  intro w'
                  go_simp
                  with_reducible rfl
                 rotate_left
                 ·
                  simp only [Act.put,List.setIfInBounds_toArray,List.set_cons_zero,List.set_cons_succ,i64_w,i32_w]
                  rfl
                 refine pure_ (i:=12) (N:=some 72) (v:=?_) (a':=?_) #[true,true,true,true,true,true,true,true,true,true,true,true,true] rfl rfl (any_of HT_.out (by kernel_rfl)) (fun _ _ _ h => h) (Or.inl ⟨by rfl,?_⟩) ?_ ?_;rotate_left
                 ·
                  intro w'
                  go_simp
                  with_reducible rfl
                 rotate_left
                 ·
                  simp only [Act.put,List.setIfInBounds_toArray,List.set_cons_zero,List.set_cons_succ,i64_w,i32_w]
                  rfl
                 refine done_ (done_of HT_.out (by kernel_rfl)) ?_
                 try go_wp2
                 go_roundg k2
                 case measure => have:=HK1.out;have:=HK2.out;omega
                 case rel => exact ⟨(wrap64 (x6_2 + 1)),(by first|rfl|(simp;done)|(simp [*];done)),H',⟨by have:=HK1.out;have:=HK2.out;omega⟩,⟨rU HO_3.out⟩,⟨by (with_reducible repeat (first|apply Kd.N_alloc|apply Kd.N_drewN|apply Kd.N_drew));exact HO_4.out⟩,⟨by repeat (first|(with_reducible exact HR519_0.out)|(with_reducible refine Kd.C_alloc ?_ _)|(with_reducible refine Kd.C_drewN ?_ _)|(with_reducible refine Kd.C_drew ?_)|exact HR519_0.out)⟩,⟨belU HB.out⟩⟩
                ·
                 replace c34:=Bool.eq_false_iff.mpr c34;subst c34
                 have H1 : (some false) = some r:=by rw [if_neg (show ¬ (false = true) by decide)] at H;exact H
                 clear H;have H:=H1;clear H1
                 obtain rfl:=Option.some.inj H
                 have p521 : 0 ≤ (x6_2 : Int):=of_decide_eq_true (by first|(with_reducible assumption)|assumption)
                 have q521 : x6_2 < (t505.length : Int):=of_decide_eq_true (by first|(with_reducible assumption)|assumption)
                 obtain ⟨ad521,e521,hx521_0,hx521_1,hx521_2⟩:=at_T29 (Kd.R_reads' HO_3.out).2.2 x6_2 p521 q521
                 cases e521
                 replace p521:=eq_true p521
                 replace q521:=eq_true q521
                 have p525 : 0 ≤ (x6_2 : Int):=of_decide_eq_true (by first|(with_reducible assumption)|assumption)
                 have q525 : x6_2 < (t505.length : Int):=of_decide_eq_true (by first|(with_reducible assumption)|assumption)
                 obtain ⟨ad525,e525,hx525_0,hx525_1,hx525_2⟩:=at_T29 (Kd.R_reads' HO_3.out).2.2 x6_2 p525 q525
                 obtain rfl : ad521 = ad525:=(by injection e525)
                 replace p525:=eq_true p525
                 replace q525:=eq_true q525
                 try go_wp2
                 have n0_:=Aside0.mk (Kd.R_drew HO_3.out);have n1_:=Aside0.mk (Kd.N_drew HO_4.out);have n2_:=Aside0.mk (Kd.C_drew HR519_0.out);have n3_:=Aside0.mk (below_drew1 HB.out);clear HO_3 HO_4 HR519_0 HB;have HO_3:=n0_;have HO_4:=n1_;have HR519_0:=n2_;have HB:=n3_;clear n0_ n1_ n2_ n3_
                 have p526 : 0 ≤ (x5_1 : Int):=of_decide_eq_true (by first|(with_reducible assumption)|assumption)
                 have q526 : x5_1 < (t508.length : Int):=of_decide_eq_true (by first|(with_reducible assumption)|assumption)
                 obtain ⟨ad526,A526_0,c526_0,e526,hx526_0,hl526_0,hi526_0⟩:=at_L2 (Kd.N_reads' HO_4.out).2.2 x5_1 p526 q526
                 obtain rfl : ad519 = ad526:=(by injection e526)
                 obtain ⟨ce526,hce526,hMe526,hcc526⟩:=Kd.N_get HO_4.out [] x5_1 p526 (by first|exact q526|exact of_decide_eq_true (by first|(with_reducible assumption)|assumption)|(have e_:=(Kd.N_reads' HO_4.out).1;omega))
                 obtain ⟨ua526_0,uc526_0,rfl,ul526_0,ge526_0⟩:=Kd.FK_slice_open hMe526
                 have hv526_0:=hcc526 0 _ rfl
                 rw [Nat.add_zero,show ((Kd.slice 3 (Kd.int .i64))).sz = 1 from rfl,Nat.mul_one] at hv526_0
                 replace hv526_0:=Option.some.inj (hv526_0.symm.trans hx526_0)
                 injection hv526_0 with hva_ hvn_ hvc_
                 rw [hva_] at ge526_0
                 rw [hvc_] at ul526_0;have HL526_0:=Aside0.mk (show Kd.V (Kd.int .i64) 3 _ w.heap.size _ _ (rd_L2 t508 x5_1) from Kd.V_mk ul526_0 ge526_0);clear hva_ hvn_ hvc_ ge526_0 ul526_0 hcc526 hce526
                 have HR526_0:=Aside0.mk hi526_0
                 have HC526_0:=Aside0.mk hl526_0;clear hi526_0 hl526_0
                 replace p526:=eq_true p526
                 replace q526:=eq_true q526
                 have p527 : 0 ≤ (x6_2 : Int):=of_decide_eq_true (by first|(with_reducible assumption)|assumption)
                 have q527 : x6_2 < (t505.length : Int):=of_decide_eq_true (by first|(with_reducible assumption)|assumption)
                 obtain ⟨ad527,e527,hx527_0,hx527_1,hx527_2⟩:=at_T29 (Kd.R_reads' HO_3.out).2.2 x6_2 p527 q527
                 obtain rfl : ad521 = ad527:=(by injection e527)
                 replace p527:=eq_true p527
                 replace q527:=eq_true q527
                 refine start_ (n:=13) (S:=fun w' => w'.cell? (ad519.add (x5_1).toNat) = some (.slice A526_0 (rd_L2 t508 x5_1).length c526_0) ∧ w'.cell? (ad521.add ((x6_2).toNat * 3)) = some (.int .i64 ((rd_T29 t505 x6_2).f0)) ∧ w'.cell? ⟨(ad521.add ((x6_2).toNat * 3)).block,(ad521.add ((x6_2).toNat * 3)).off + 1,none⟩ = some (.int .i64 ((rd_T29 t505 x6_2).f1)) ∧ w'.cell? ⟨(ad521.add ((x6_2).toNat * 3)).block,(ad521.add ((x6_2).toNat * 3)).off + 2,none⟩ = some (.int .i64 ((rd_T29 t505 x6_2).f2))) (ds:=[]) #[false,false,false,false,false,false,false,false,false,false,false,false,false] (by kernel_rfl) rfl rfl ⟨hx526_0,hx527_0,hx527_1,hx527_2⟩ (fun hHeld => ?_);refine with_tabW laws_FnCornersOf.tab16 laws_FnCornersOf.bits16 (fun HT_ HW_ => ?_)
                 generalize wr.drew = w37 at HO_3 HO_4 HR519_0 HB HL526_0 HR526_0 hx526_0 hx527_0 hx527_1 hx527_2 hHeld ⊢
                 refine pure_ (i:=0) (N:=some 60) (v:=?_) (a':=?_) #[true,false,false,false,false,false,false,false,false,false,false,false,false] rfl rfl (any_of HT_.out (by kernel_rfl)) (fun _ _ _ h => h) (Or.inl ⟨by rfl,?_⟩) ?_ ?_;rotate_left
                 ·
                  intro w'
                  go_simp
                  with_reducible rfl
                 rotate_left
                 ·
                  simp only [Act.put,List.setIfInBounds_toArray,List.set_cons_zero,List.set_cons_succ,i64_w,i32_w]
                  rfl
                 refine pure_ (i:=1) (N:=some 61) (v:=?_) (a':=?_) #[true,true,false,false,false,false,false,false,false,false,false,false,false] rfl rfl (any_of HT_.out (by kernel_rfl)) (fun _ _ _ h => h) (Or.inl ⟨by rfl,?_⟩) ?_ ?_;rotate_left
                 ·
                  intro w'
                  go_simp
                  with_reducible rfl
                 rotate_left
                 ·
                  simp only [Act.put,List.setIfInBounds_toArray,List.set_cons_zero,List.set_cons_succ,i64_w,i32_w]
                  rfl
                 refine pure_ (i:=2) (N:=some 62) (v:=?_) (a':=?_) #[true,true,true,false,false,false,false,false,false,false,false,false,false] rfl rfl (any_of HT_.out (by kernel_rfl)) (fun _ _ _ h => h) (Or.inl ⟨by rfl,?_⟩) ?_ ?_;rotate_left
                 ·
                  intro w'
                  go_simp
                  with_reducible rfl
                 rotate_left
                 ·
                  simp only [Act.put,List.setIfInBounds_toArray,List.set_cons_zero,List.set_cons_succ,i64_w,i32_w]
                  rfl
                 refine pure_ (i:=3) (N:=some 63) (v:=?_) (a':=?_) #[true,true,true,true,false,false,false,false,false,false,false,false,false] rfl rfl (any_of HT_.out (by kernel_rfl)) (fun _ _ _ h => h) (Or.inl ⟨by rfl,?_⟩) ?_ ?_;rotate_left
                 ·
                  intro w'
                  go_simp
                  with_reducible rfl
                 rotate_left
                 ·
                  simp only [Act.put,List.setIfInBounds_toArray,List.set_cons_zero,List.set_cons_succ,i64_w,i32_w]
                  rfl
                 refine pure_ (i:=4) (N:=some 64) (v:=?_) (a':=?_) #[true,true,true,true,true,false,false,false,false,false,false,false,false] rfl rfl (any_of HT_.out (by kernel_rfl)) (fun _ _ _ h => h) (Or.inl ⟨by rfl,?_⟩) ?_ ?_;rotate_left
                 ·
                  intro w'
                  go_simp
                  with_reducible rfl
                 rotate_left
                 ·
                  simp only [Act.put,List.setIfInBounds_toArray,List.set_cons_zero,List.set_cons_succ,i64_w,i32_w]
                  rfl
                 refine pure_ (i:=6) (N:=some 66) (v:=?_) (a':=?_) #[true,true,true,true,true,false,true,false,false,false,false,false,false] rfl rfl (any_of HT_.out (by kernel_rfl)) (fun _ _ _ h => h) (Or.inl ⟨by rfl,?_⟩) ?_ ?_;rotate_left
                 ·
                  intro w'
                  go_simp
                  with_reducible rfl
                 rotate_left
                 ·
                  simp only [Act.put,List.setIfInBounds_toArray,List.set_cons_zero,List.set_cons_succ,i64_w,i32_w]
                  rfl
                 refine pure_ (i:=7) (N:=some 67) (v:=?_) (a':=?_) #[true,true,true,true,true,false,true,true,false,false,false,false,false] rfl rfl (any_of HT_.out (by kernel_rfl)) (fun _ _ _ h => h) (Or.inl ⟨by rfl,?_⟩) ?_ ?_;rotate_left
                 ·
                  intro w'
                  go_simp
                  with_reducible rfl
                 rotate_left
                 ·
                  simp only [Act.put,List.setIfInBounds_toArray,List.set_cons_zero,List.set_cons_succ,i64_w,i32_w]
                  rfl
                 refine pure_ (i:=8) (N:=some 68) (v:=?_) (a':=?_) #[true,true,true,true,true,false,true,true,true,false,false,false,false] rfl rfl (any_of HT_.out (by kernel_rfl)) (fun _ _ _ h => h) (Or.inl ⟨by rfl,?_⟩) ?_ ?_;rotate_left
                 ·
                  intro w'
                  go_simp
                  with_reducible rfl
                 rotate_left
                 ·
                  simp only [Act.put,List.setIfInBounds_toArray,List.set_cons_zero,List.set_cons_succ,i64_w,i32_w]
                  rfl
                 refine take_ (i:=5) (N:=some 65) (v:=?_) (a':=?_) #[true,true,true,true,true,true,true,true,true,false,false,false,false] rfl rfl (take_ofW HT_.out HW_.out (by kernel_rfl)) (fun _ _ _ h => h) (Or.inl ⟨by rfl,?_⟩) hHeld ?_ ?_;rotate_left
                 ·
                  rintro w' ⟨s0,s1,s2,s3⟩
                  go_simp
                  with_reducible rfl
                 rotate_left
                 ·
                  simp only [Act.put,List.setIfInBounds_toArray,List.set_cons_zero,List.set_cons_succ,i64_w,i32_w]
                  rfl
                 refine take_ (i:=9) (N:=some 69) (v:=?_) (a':=?_) #[true,true,true,true,true,true,true,true,true,true,false,false,false] rfl rfl (take_ofW HT_.out HW_.out (by kernel_rfl)) (fun _ _ _ h => h) (Or.inl ⟨by rfl,?_⟩) hHeld ?_ ?_;rotate_left
                 ·
                  rintro w' ⟨s0,s1,s2,s3⟩
                  go_simp
                  with_reducible rfl
                 rotate_left
                 ·
                  simp only [Act.put,List.setIfInBounds_toArray,List.set_cons_zero,List.set_cons_succ,i64_w,i32_w]
                  rfl
                 refine one_ (i:=10) (N:=some 70) #[true,true,true,true,true,true,true,true,true,true,true,false,false] rfl rfl (one_of HT_.out (by kernel_rfl)) (by decide) (fun K hK => ?_)
                 refine goes_ Try.func18 (by kernel_rfl) rfl #[.slice A526_0 (rd_L2 t508 x5_1).length c526_0,.agg #[.int .i64 ((rd_T29 t505 x6_2).f0),.int .i64 ((rd_T29 t505 x6_2).f1),.int .i64 ((rd_T29 t505 x6_2).f2)]] (by rfl) rfl rfl (by (try simp only [List.map_toArray,List.map_cons,List.map_nil]);first|done|rfl|(simp only [List.length_drop,List.length_take];rfl)) ?_
                 with_reducible refine (impl_WeighSo.calls k2 _ _ (rd_L2 t508 x5_1) ((rd_T29 t505 x6_2).f0) ((rd_T29 t505 x6_2).f1) ((rd_T29 t505 x6_2).f2) false _ ?side1 ?side2 A33.out).mono ?_
                 (case side1 => repeat (first|exact (by repeat (first|(with_reducible exact HR526_0.out)|(with_reducible refine Kd.C_alloc ?_ _)|(with_reducible refine Kd.C_drewN ?_ _)|(with_reducible refine Kd.C_drew ?_)|exact HR526_0.out))|(with_reducible refine Kd.C_alloc ?_ _)|(with_reducible refine Kd.C_drewN ?_ _)|(with_reducible refine Kd.C_drew ?_)))
                 (case side2 => exact HC526_0.out)
                 rintro e w38 ⟨rfl,hb⟩
                 have HS0_:=(hb.cell (World.block_lt_of_cell? _ _ (hHeld.1))).trans (hHeld.1)
                 have HS1_:=(hb.cell (World.block_lt_of_cell? _ _ (hHeld.2.1))).trans (hHeld.2.1)
                 have HS2_:=(hb.cell (World.block_lt_of_cell? _ _ (hHeld.2.2.1))).trans (hHeld.2.2.1)
                 have HS3_:=(hb.cell (World.block_lt_of_cell? _ _ (hHeld.2.2.2))).trans (hHeld.2.2.2)
                 refine ⟨_,rfl,?_⟩;have n0_:=Aside0.mk (Kd.R_below (rU HO_3.out) hb);have n1_:=Aside0.mk (Kd.N_below (by (with_reducible repeat (first|apply Kd.N_alloc|apply Kd.N_drewN|apply Kd.N_drew));exact HO_4.out) hb);have n2_:=Aside0.mk (Kd.V_below (by (with_reducible repeat (first|apply Kd.V_alloc|apply Kd.V_drewN|apply Kd.V_drew));exact HL526_0.out) hb);have n3_:=Aside0.mk (Kd.C_below (by repeat (first|(with_reducible exact HR519_0.out)|(with_reducible refine Kd.C_alloc ?_ _)|(with_reducible refine Kd.C_drewN ?_ _)|(with_reducible refine Kd.C_drew ?_)|exact HR519_0.out)) hb);have n4_:=Aside0.mk (Kd.C_below (by repeat (first|(with_reducible exact HR526_0.out)|(with_reducible refine Kd.C_alloc ?_ _)|(with_reducible refine Kd.C_drewN ?_ _)|(with_reducible refine Kd.C_drew ?_)|exact HR526_0.out)) hb);have n5_:=Aside0.mk (below_step (belU HB.out) hb);clear HO_3 HO_4 HL526_0 HR519_0 HR526_0 HB;have HO_3:=n0_;have HO_4:=n1_;have HL526_0:=n2_;have HR519_0:=n3_;have HR526_0:=n4_;have HB:=n5_;clear n0_ n1_ n2_ n3_ n4_ n5_
                 (try clear hb)
                 (try clear hb2)
                 (try clear hk)
                 (try clear hi)
                 refine hK.out _ _ ⟨HS0_,HS1_,HS2_,HS3_⟩ (fun hHeld => ?_);clear hK K
                 refine norm_ (a':=?_) ?_ ?_;rotate_left
                 ·
                  show Act.put _ (some 70) _ = _
                  simp only [Act.put,List.setIfInBounds_toArray,List.set_cons_zero,List.set_cons_succ,i64_w,i32_w]
                  rfl
                 refine pure_ (i:=11) (N:=some 71) (v:=?_) (a':=?_) #[true,true,true,true,true,true,true,true,true,true,true,true,false] rfl rfl (any_of HT_.out (by kernel_rfl)) (fun _ _ _ h => h) (Or.inl ⟨by rfl,?_⟩) ?_ ?_;rotate_left
                 ·
                  intro w'
                  go_simp
                  with_reducible rfl
                 rotate_left
                 ·
                  simp only [Act.put,List.setIfInBounds_toArray,List.set_cons_zero,List.set_cons_succ,i64_w,i32_w]
                  rfl
                 refine pure_ (i:=12) (N:=some 72) (v:=?_) (a':=?_) #[true,true,true,true,true,true,true,true,true,true,true,true,true] rfl rfl (any_of HT_.out (by kernel_rfl)) (fun _ _ _ h => h) (Or.inl ⟨by rfl,?_⟩) ?_ ?_;rotate_left
                 ·
                  intro w'
                  go_simp
                  with_reducible rfl
                 rotate_left
                 ·
                  simp only [Act.put,List.setIfInBounds_toArray,List.set_cons_zero,List.set_cons_succ,i64_w,i32_w]
                  rfl
                 refine done_ (done_of HT_.out (by kernel_rfl)) ?_
                 try go_wp2
                 go_ret
                 exact ⟨by first|rfl|(simp [errW_none,errW_some] <;> rfl)|(simp [*,errW_none,errW_some] <;> rfl),belU HB.out⟩
               ·
                rw [if_neg c32] at H
                exact absurd H (by simp)
              ·
               rw [if_neg c31] at H
               exact absurd H (by simp)
             ·
              rw [if_neg c30] at H
              have c30b0 : (((rd_T29 t505 x6_2).f0) == 2) = false:=beq_eq_false_iff_ne.mpr c30
              have c30b1 : (((rd_T29 t505 x6_2).f0) != 2) = true:=bne_iff_ne.mpr c30
              by_cases c39 : ((rd_T29 t505 x6_2).f0) = 5
              ·
               rw [if_pos c39] at H
               have c39b0 : (((rd_T29 t505 x6_2).f0) == 5) = true:=beq_iff_eq.mpr c39
               have c39b1 : (((rd_T29 t505 x6_2).f0) != 5) = false:=bne_eq_false_iff_eq.mpr c39;clear c39
               by_cases c40 : 0 ≤ x5_1
               ·
                rw [if_pos c40] at H
                have c40b0 : decide (0 ≤ x5_1) = true:=decide_eq_true c40;clear c40
                by_cases c41 : x5_1 < (t508.length : Int)
                ·
                 rw [if_pos c41] at H
                 have c41b0 : decide (x5_1 < (t508.length : Int)) = true:=decide_eq_true c41;clear c41
                 replace H:=Option.bind_eq_some_iff.mp H
                 obtain ⟨t532,A420,H⟩:=H
                 replace H : (if t532 = true then (laws_FnCornersOf.l1 k2 t505 t508 x5_1 (wrap64 (x6_2 + 1))) else (some false)) = some r:=H
                 have A42:=Aside0.mk A420;clear A420
                 by_cases c43 : t532 = true
                 ·
                  subst c43
                  have H1 : (laws_FnCornersOf.l1 k2 t505 t508 x5_1 (wrap64 (x6_2 + 1))) = some r:=by rw [if_pos rfl] at H;exact H
                  clear H;have H:=H1;clear H1
                  have H':=Aside0.mk H;clear H
                  have p521 : 0 ≤ (x6_2 : Int):=of_decide_eq_true (by first|(with_reducible assumption)|assumption)
                  have q521 : x6_2 < (t505.length : Int):=of_decide_eq_true (by first|(with_reducible assumption)|assumption)
                  obtain ⟨ad521,e521,hx521_0,hx521_1,hx521_2⟩:=at_T29 (Kd.R_reads' HO_3.out).2.2 x6_2 p521 q521
                  cases e521
                  replace p521:=eq_true p521
                  replace q521:=eq_true q521
                  have p525 : 0 ≤ (x6_2 : Int):=of_decide_eq_true (by first|(with_reducible assumption)|assumption)
                  have q525 : x6_2 < (t505.length : Int):=of_decide_eq_true (by first|(with_reducible assumption)|assumption)
                  obtain ⟨ad525,e525,hx525_0,hx525_1,hx525_2⟩:=at_T29 (Kd.R_reads' HO_3.out).2.2 x6_2 p525 q525
                  obtain rfl : ad521 = ad525:=(by injection e525)
                  replace p525:=eq_true p525
                  replace q525:=eq_true q525
                  have p529 : 0 ≤ (x6_2 : Int):=of_decide_eq_true (by first|(with_reducible assumption)|assumption)
                  have q529 : x6_2 < (t505.length : Int):=of_decide_eq_true (by first|(with_reducible assumption)|assumption)
                  obtain ⟨ad529,e529,hx529_0,hx529_1,hx529_2⟩:=at_T29 (Kd.R_reads' HO_3.out).2.2 x6_2 p529 q529
                  obtain rfl : ad521 = ad529:=(by injection e529)
                  replace p529:=eq_true p529
                  replace q529:=eq_true q529
                  try go_wp2
                  have n0_:=Aside0.mk (Kd.R_drew HO_3.out);have n1_:=Aside0.mk (Kd.N_drew HO_4.out);have n2_:=Aside0.mk (Kd.C_drew HR519_0.out);have n3_:=Aside0.mk (below_drew1 HB.out);clear HO_3 HO_4 HR519_0 HB;have HO_3:=n0_;have HO_4:=n1_;have HR519_0:=n2_;have HB:=n3_;clear n0_ n1_ n2_ n3_
                  have p530 : 0 ≤ (x5_1 : Int):=of_decide_eq_true (by first|(with_reducible assumption)|assumption)
                  have q530 : x5_1 < (t508.length : Int):=of_decide_eq_true (by first|(with_reducible assumption)|assumption)
                  obtain ⟨ad530,A530_0,c530_0,e530,hx530_0,hl530_0,hi530_0⟩:=at_L2 (Kd.N_reads' HO_4.out).2.2 x5_1 p530 q530
                  obtain rfl : ad519 = ad530:=(by injection e530)
                  obtain ⟨ce530,hce530,hMe530,hcc530⟩:=Kd.N_get HO_4.out [] x5_1 p530 (by first|exact q530|exact of_decide_eq_true (by first|(with_reducible assumption)|assumption)|(have e_:=(Kd.N_reads' HO_4.out).1;omega))
                  obtain ⟨ua530_0,uc530_0,rfl,ul530_0,ge530_0⟩:=Kd.FK_slice_open hMe530
                  have hv530_0:=hcc530 0 _ rfl
                  rw [Nat.add_zero,show ((Kd.slice 3 (Kd.int .i64))).sz = 1 from rfl,Nat.mul_one] at hv530_0
                  replace hv530_0:=Option.some.inj (hv530_0.symm.trans hx530_0)
                  injection hv530_0 with hva_ hvn_ hvc_
                  rw [hva_] at ge530_0
                  rw [hvc_] at ul530_0;have HL530_0:=Aside0.mk (show Kd.V (Kd.int .i64) 3 _ w.heap.size _ _ (rd_L2 t508 x5_1) from Kd.V_mk ul530_0 ge530_0);clear hva_ hvn_ hvc_ ge530_0 ul530_0 hcc530 hce530
                  have HR530_0:=Aside0.mk hi530_0
                  have HC530_0:=Aside0.mk hl530_0;clear hi530_0 hl530_0
                  replace p530:=eq_true p530
                  replace q530:=eq_true q530
                  have p531 : 0 ≤ (x6_2 : Int):=of_decide_eq_true (by first|(with_reducible assumption)|assumption)
                  have q531 : x6_2 < (t505.length : Int):=of_decide_eq_true (by first|(with_reducible assumption)|assumption)
                  obtain ⟨ad531,e531,hx531_0,hx531_1,hx531_2⟩:=at_T29 (Kd.R_reads' HO_3.out).2.2 x6_2 p531 q531
                  obtain rfl : ad521 = ad531:=(by injection e531)
                  replace p531:=eq_true p531
                  replace q531:=eq_true q531
                  refine start_ (n:=13) (S:=fun w' => w'.cell? (ad519.add (x5_1).toNat) = some (.slice A530_0 (rd_L2 t508 x5_1).length c530_0) ∧ w'.cell? (ad521.add ((x6_2).toNat * 3)) = some (.int .i64 ((rd_T29 t505 x6_2).f0)) ∧ w'.cell? ⟨(ad521.add ((x6_2).toNat * 3)).block,(ad521.add ((x6_2).toNat * 3)).off + 1,none⟩ = some (.int .i64 ((rd_T29 t505 x6_2).f1)) ∧ w'.cell? ⟨(ad521.add ((x6_2).toNat * 3)).block,(ad521.add ((x6_2).toNat * 3)).off + 2,none⟩ = some (.int .i64 ((rd_T29 t505 x6_2).f2))) (ds:=[]) #[false,false,false,false,false,false,false,false,false,false,false,false,false] (by kernel_rfl) rfl rfl ⟨hx530_0,hx531_0,hx531_1,hx531_2⟩ (fun hHeld => ?_);refine with_tabW laws_FnCornersOf.tab16 laws_FnCornersOf.bits16 (fun HT_ HW_ => ?_)
                  generalize wr.drew = w44 at HO_3 HO_4 HR519_0 HB HL530_0 HR530_0 hx530_0 hx531_0 hx531_1 hx531_2 hHeld ⊢
                  refine pure_ (i:=0) (N:=some 60) (v:=?_) (a':=?_) #[true,false,false,false,false,false,false,false,false,false,false,false,false] rfl rfl (any_of HT_.out (by kernel_rfl)) (fun _ _ _ h => h) (Or.inl ⟨by rfl,?_⟩) ?_ ?_;rotate_left
                  ·
                   intro w'
                   go_simp
                   with_reducible rfl
                  rotate_left
                  ·
                   simp only [Act.put,List.setIfInBounds_toArray,List.set_cons_zero,List.set_cons_succ,i64_w,i32_w]
                   rfl
                  refine pure_ (i:=1) (N:=some 61) (v:=?_) (a':=?_) #[true,true,false,false,false,false,false,false,false,false,false,false,false] rfl rfl (any_of HT_.out (by kernel_rfl)) (fun _ _ _ h => h) (Or.inl ⟨by rfl,?_⟩) ?_ ?_;rotate_left
                  ·
                   intro w'
                   go_simp
                   with_reducible rfl
                  rotate_left
                  ·
                   simp only [Act.put,List.setIfInBounds_toArray,List.set_cons_zero,List.set_cons_succ,i64_w,i32_w]
                   rfl
                  refine pure_ (i:=2) (N:=some 62) (v:=?_) (a':=?_) #[true,true,true,false,false,false,false,false,false,false,false,false,false] rfl rfl (any_of HT_.out (by kernel_rfl)) (fun _ _ _ h => h) (Or.inl ⟨by rfl,?_⟩) ?_ ?_;rotate_left
                  ·
                   intro w'
                   go_simp
                   with_reducible rfl
                  rotate_left
                  ·
                   simp only [Act.put,List.setIfInBounds_toArray,List.set_cons_zero,List.set_cons_succ,i64_w,i32_w]
                   rfl
                  refine pure_ (i:=3) (N:=some 63) (v:=?_) (a':=?_) #[true,true,true,true,false,false,false,false,false,false,false,false,false] rfl rfl (any_of HT_.out (by kernel_rfl)) (fun _ _ _ h => h) (Or.inl ⟨by rfl,?_⟩) ?_ ?_;rotate_left
                  ·
                   intro w'
                   go_simp
                   with_reducible rfl
                  rotate_left
                  ·
                   simp only [Act.put,List.setIfInBounds_toArray,List.set_cons_zero,List.set_cons_succ,i64_w,i32_w]
                   rfl
                  refine pure_ (i:=4) (N:=some 64) (v:=?_) (a':=?_) #[true,true,true,true,true,false,false,false,false,false,false,false,false] rfl rfl (any_of HT_.out (by kernel_rfl)) (fun _ _ _ h => h) (Or.inl ⟨by rfl,?_⟩) ?_ ?_;rotate_left
                  ·
                   intro w'
                   go_simp
                   with_reducible rfl
                  rotate_left
                  ·
                   simp only [Act.put,List.setIfInBounds_toArray,List.set_cons_zero,List.set_cons_succ,i64_w,i32_w]
                   rfl
                  refine pure_ (i:=6) (N:=some 66) (v:=?_) (a':=?_) #[true,true,true,true,true,false,true,false,false,false,false,false,false] rfl rfl (any_of HT_.out (by kernel_rfl)) (fun _ _ _ h => h) (Or.inl ⟨by rfl,?_⟩) ?_ ?_;rotate_left
                  ·
                   intro w'
                   go_simp
                   with_reducible rfl
                  rotate_left
                  ·
                   simp only [Act.put,List.setIfInBounds_toArray,List.set_cons_zero,List.set_cons_succ,i64_w,i32_w]
                   rfl
                  refine pure_ (i:=7) (N:=some 67) (v:=?_) (a':=?_) #[true,true,true,true,true,false,true,true,false,false,false,false,false] rfl rfl (any_of HT_.out (by kernel_rfl)) (fun _ _ _ h => h) (Or.inl ⟨by rfl,?_⟩) ?_ ?_;rotate_left
                  ·
                   intro w'
                   go_simp
                   with_reducible rfl
                  rotate_left
                  ·
                   simp only [Act.put,List.setIfInBounds_toArray,List.set_cons_zero,List.set_cons_succ,i64_w,i32_w]
                   rfl
                  refine pure_ (i:=8) (N:=some 68) (v:=?_) (a':=?_) #[true,true,true,true,true,false,true,true,true,false,false,false,false] rfl rfl (any_of HT_.out (by kernel_rfl)) (fun _ _ _ h => h) (Or.inl ⟨by rfl,?_⟩) ?_ ?_;rotate_left
                  ·
                   intro w'
                   go_simp
                   with_reducible rfl
                  rotate_left
                  ·
                   simp only [Act.put,List.setIfInBounds_toArray,List.set_cons_zero,List.set_cons_succ,i64_w,i32_w]
                   rfl
                  refine take_ (i:=5) (N:=some 65) (v:=?_) (a':=?_) #[true,true,true,true,true,true,true,true,true,false,false,false,false] rfl rfl (take_ofW HT_.out HW_.out (by kernel_rfl)) (fun _ _ _ h => h) (Or.inl ⟨by rfl,?_⟩) hHeld ?_ ?_;rotate_left
                  ·
                   rintro w' ⟨s0,s1,s2,s3⟩
                   go_simp
                   with_reducible rfl
                  rotate_left
                  ·
                   simp only [Act.put,List.setIfInBounds_toArray,List.set_cons_zero,List.set_cons_succ,i64_w,i32_w]
                   rfl
                  refine take_ (i:=9) (N:=some 69) (v:=?_) (a':=?_) #[true,true,true,true,true,true,true,true,true,true,false,false,false] rfl rfl (take_ofW HT_.out HW_.out (by kernel_rfl)) (fun _ _ _ h => h) (Or.inl ⟨by rfl,?_⟩) hHeld ?_ ?_;rotate_left
                  ·
                   rintro w' ⟨s0,s1,s2,s3⟩
                   go_simp
                   with_reducible rfl
                  rotate_left
                  ·
                   simp only [Act.put,List.setIfInBounds_toArray,List.set_cons_zero,List.set_cons_succ,i64_w,i32_w]
                   rfl
                  refine one_ (i:=10) (N:=some 70) #[true,true,true,true,true,true,true,true,true,true,true,false,false] rfl rfl (one_of HT_.out (by kernel_rfl)) (by decide) (fun K hK => ?_)
                  refine goes_ Try.func18 (by kernel_rfl) rfl #[.slice A530_0 (rd_L2 t508 x5_1).length c530_0,.agg #[.int .i64 ((rd_T29 t505 x6_2).f0),.int .i64 ((rd_T29 t505 x6_2).f1),.int .i64 ((rd_T29 t505 x6_2).f2)]] (by rfl) rfl rfl (by (try simp only [List.map_toArray,List.map_cons,List.map_nil]);first|done|rfl|(simp only [List.length_drop,List.length_take];rfl)) ?_
                  with_reducible refine (impl_WeighSo.calls k2 _ _ (rd_L2 t508 x5_1) ((rd_T29 t505 x6_2).f0) ((rd_T29 t505 x6_2).f1) ((rd_T29 t505 x6_2).f2) true _ ?side1 ?side2 A42.out).mono ?_
                  (case side1 => repeat (first|exact (by repeat (first|(with_reducible exact HR530_0.out)|(with_reducible refine Kd.C_alloc ?_ _)|(with_reducible refine Kd.C_drewN ?_ _)|(with_reducible refine Kd.C_drew ?_)|exact HR530_0.out))|(with_reducible refine Kd.C_alloc ?_ _)|(with_reducible refine Kd.C_drewN ?_ _)|(with_reducible refine Kd.C_drew ?_)))
                  (case side2 => exact HC530_0.out)
                  rintro e w45 ⟨rfl,hb⟩
                  have HS0_:=(hb.cell (World.block_lt_of_cell? _ _ (hHeld.1))).trans (hHeld.1)
                  have HS1_:=(hb.cell (World.block_lt_of_cell? _ _ (hHeld.2.1))).trans (hHeld.2.1)
                  have HS2_:=(hb.cell (World.block_lt_of_cell? _ _ (hHeld.2.2.1))).trans (hHeld.2.2.1)
                  have HS3_:=(hb.cell (World.block_lt_of_cell? _ _ (hHeld.2.2.2))).trans (hHeld.2.2.2)
                  refine ⟨_,rfl,?_⟩;have n0_:=Aside0.mk (Kd.R_below (rU HO_3.out) hb);have n1_:=Aside0.mk (Kd.N_below (by (with_reducible repeat (first|apply Kd.N_alloc|apply Kd.N_drewN|apply Kd.N_drew));exact HO_4.out) hb);have n2_:=Aside0.mk (Kd.V_below (by (with_reducible repeat (first|apply Kd.V_alloc|apply Kd.V_drewN|apply Kd.V_drew));exact HL530_0.out) hb);have n3_:=Aside0.mk (Kd.C_below (by repeat (first|(with_reducible exact HR519_0.out)|(with_reducible refine Kd.C_alloc ?_ _)|(with_reducible refine Kd.C_drewN ?_ _)|(with_reducible refine Kd.C_drew ?_)|exact HR519_0.out)) hb);have n4_:=Aside0.mk (Kd.C_below (by repeat (first|(with_reducible exact HR530_0.out)|(with_reducible refine Kd.C_alloc ?_ _)|(with_reducible refine Kd.C_drewN ?_ _)|(with_reducible refine Kd.C_drew ?_)|exact HR530_0.out)) hb);have n5_:=Aside0.mk (below_step (belU HB.out) hb);clear HO_3 HO_4 HL530_0 HR519_0 HR530_0 HB;have HO_3:=n0_;have HO_4:=n1_;have HL530_0:=n2_;have HR519_0:=n3_;have HR530_0:=n4_;have HB:=n5_;clear n0_ n1_ n2_ n3_ n4_ n5_
                  (try clear hb)
                  (try clear hb2)
                  (try clear hk)
                  (try clear hi)
                  refine hK.out _ _ ⟨HS0_,HS1_,HS2_,HS3_⟩ (fun hHeld => ?_);clear hK K
                  refine norm_ (a':=?_) ?_ ?_;rotate_left
                  ·
                   show Act.put _ (some 70) _ = _
                   simp only [Act.put,List.setIfInBounds_toArray,List.set_cons_zero,List.set_cons_succ,i64_w,i32_w]
                   rfl
                  refine pure_ (i:=11) (N:=some 71) (v:=?_) (a':=?_) #[true,true,true,true,true,true,true,true,true,true,true,true,false] rfl rfl (any_of HT_.out (by kernel_rfl)) (fun _ _ _ h => h) (Or.inl ⟨by rfl,?_⟩) ?_ ?_;rotate_left
                  ·
                   intro w'
                   go_simp
                   with_reducible rfl
                  rotate_left
                  ·
                   simp only [Act.put,List.setIfInBounds_toArray,List.set_cons_zero,List.set_cons_succ,i64_w,i32_w]
                   rfl
                  refine pure_ (i:=12) (N:=some 72) (v:=?_) (a':=?_) #[true,true,true,true,true,true,true,true,true,true,true,true,true] rfl rfl (any_of HT_.out (by kernel_rfl)) (fun _ _ _ h => h) (Or.inl ⟨by rfl,?_⟩) ?_ ?_;rotate_left
                  ·
                   intro w'
                   go_simp
                   with_reducible rfl
                  rotate_left
                  ·
                   simp only [Act.put,List.setIfInBounds_toArray,List.set_cons_zero,List.set_cons_succ,i64_w,i32_w]
                   rfl
                  refine done_ (done_of HT_.out (by kernel_rfl)) ?_
                  try go_wp2
                  go_roundg k2
                  case measure => have:=HK1.out;have:=HK2.out;omega
                  case rel => exact ⟨(wrap64 (x6_2 + 1)),(by first|rfl|(simp;done)|(simp [*];done)),H',⟨by have:=HK1.out;have:=HK2.out;omega⟩,⟨rU HO_3.out⟩,⟨by (with_reducible repeat (first|apply Kd.N_alloc|apply Kd.N_drewN|apply Kd.N_drew));exact HO_4.out⟩,⟨by repeat (first|(with_reducible exact HR519_0.out)|(with_reducible refine Kd.C_alloc ?_ _)|(with_reducible refine Kd.C_drewN ?_ _)|(with_reducible refine Kd.C_drew ?_)|exact HR519_0.out)⟩,⟨belU HB.out⟩⟩
                 ·
                  replace c43:=Bool.eq_false_iff.mpr c43;subst c43
                  have H1 : (some false) = some r:=by rw [if_neg (show ¬ (false = true) by decide)] at H;exact H
                  clear H;have H:=H1;clear H1
                  obtain rfl:=Option.some.inj H
                  have p521 : 0 ≤ (x6_2 : Int):=of_decide_eq_true (by first|(with_reducible assumption)|assumption)
                  have q521 : x6_2 < (t505.length : Int):=of_decide_eq_true (by first|(with_reducible assumption)|assumption)
                  obtain ⟨ad521,e521,hx521_0,hx521_1,hx521_2⟩:=at_T29 (Kd.R_reads' HO_3.out).2.2 x6_2 p521 q521
                  cases e521
                  replace p521:=eq_true p521
                  replace q521:=eq_true q521
                  have p525 : 0 ≤ (x6_2 : Int):=of_decide_eq_true (by first|(with_reducible assumption)|assumption)
                  have q525 : x6_2 < (t505.length : Int):=of_decide_eq_true (by first|(with_reducible assumption)|assumption)
                  obtain ⟨ad525,e525,hx525_0,hx525_1,hx525_2⟩:=at_T29 (Kd.R_reads' HO_3.out).2.2 x6_2 p525 q525
                  obtain rfl : ad521 = ad525:=(by injection e525)
                  replace p525:=eq_true p525
                  replace q525:=eq_true q525
                  have p529 : 0 ≤ (x6_2 : Int):=of_decide_eq_true (by first|(with_reducible assumption)|assumption)
                  have q529 : x6_2 < (t505.length : Int):=of_decide_eq_true (by first|(with_reducible assumption)|assumption)
                  obtain ⟨ad529,e529,hx529_0,hx529_1,hx529_2⟩:=at_T29 (Kd.R_reads' HO_3.out).2.2 x6_2 p529 q529
                  obtain rfl : ad521 = ad529:=(by injection e529)
                  replace p529:=eq_true p529
                  replace q529:=eq_true q529
                  try go_wp2
                  have n0_:=Aside0.mk (Kd.R_drew HO_3.out);have n1_:=Aside0.mk (Kd.N_drew HO_4.out);have n2_:=Aside0.mk (Kd.C_drew HR519_0.out);have n3_:=Aside0.mk (below_drew1 HB.out);clear HO_3 HO_4 HR519_0 HB;have HO_3:=n0_;have HO_4:=n1_;have HR519_0:=n2_;have HB:=n3_;clear n0_ n1_ n2_ n3_
                  have p530 : 0 ≤ (x5_1 : Int):=of_decide_eq_true (by first|(with_reducible assumption)|assumption)
                  have q530 : x5_1 < (t508.length : Int):=of_decide_eq_true (by first|(with_reducible assumption)|assumption)
                  obtain ⟨ad530,A530_0,c530_0,e530,hx530_0,hl530_0,hi530_0⟩:=at_L2 (Kd.N_reads' HO_4.out).2.2 x5_1 p530 q530
                  obtain rfl : ad519 = ad530:=(by injection e530)
                  obtain ⟨ce530,hce530,hMe530,hcc530⟩:=Kd.N_get HO_4.out [] x5_1 p530 (by first|exact q530|exact of_decide_eq_true (by first|(with_reducible assumption)|assumption)|(have e_:=(Kd.N_reads' HO_4.out).1;omega))
                  obtain ⟨ua530_0,uc530_0,rfl,ul530_0,ge530_0⟩:=Kd.FK_slice_open hMe530
                  have hv530_0:=hcc530 0 _ rfl
                  rw [Nat.add_zero,show ((Kd.slice 3 (Kd.int .i64))).sz = 1 from rfl,Nat.mul_one] at hv530_0
                  replace hv530_0:=Option.some.inj (hv530_0.symm.trans hx530_0)
                  injection hv530_0 with hva_ hvn_ hvc_
                  rw [hva_] at ge530_0
                  rw [hvc_] at ul530_0;have HL530_0:=Aside0.mk (show Kd.V (Kd.int .i64) 3 _ w.heap.size _ _ (rd_L2 t508 x5_1) from Kd.V_mk ul530_0 ge530_0);clear hva_ hvn_ hvc_ ge530_0 ul530_0 hcc530 hce530
                  have HR530_0:=Aside0.mk hi530_0
                  have HC530_0:=Aside0.mk hl530_0;clear hi530_0 hl530_0
                  replace p530:=eq_true p530
                  replace q530:=eq_true q530
                  have p531 : 0 ≤ (x6_2 : Int):=of_decide_eq_true (by first|(with_reducible assumption)|assumption)
                  have q531 : x6_2 < (t505.length : Int):=of_decide_eq_true (by first|(with_reducible assumption)|assumption)
                  obtain ⟨ad531,e531,hx531_0,hx531_1,hx531_2⟩:=at_T29 (Kd.R_reads' HO_3.out).2.2 x6_2 p531 q531
                  obtain rfl : ad521 = ad531:=(by injection e531)
                  replace p531:=eq_true p531
                  replace q531:=eq_true q531
                  refine start_ (n:=13) (S:=fun w' => w'.cell? (ad519.add (x5_1).toNat) = some (.slice A530_0 (rd_L2 t508 x5_1).length c530_0) ∧ w'.cell? (ad521.add ((x6_2).toNat * 3)) = some (.int .i64 ((rd_T29 t505 x6_2).f0)) ∧ w'.cell? ⟨(ad521.add ((x6_2).toNat * 3)).block,(ad521.add ((x6_2).toNat * 3)).off + 1,none⟩ = some (.int .i64 ((rd_T29 t505 x6_2).f1)) ∧ w'.cell? ⟨(ad521.add ((x6_2).toNat * 3)).block,(ad521.add ((x6_2).toNat * 3)).off + 2,none⟩ = some (.int .i64 ((rd_T29 t505 x6_2).f2))) (ds:=[]) #[false,false,false,false,false,false,false,false,false,false,false,false,false] (by kernel_rfl) rfl rfl ⟨hx530_0,hx531_0,hx531_1,hx531_2⟩ (fun hHeld => ?_);refine with_tabW laws_FnCornersOf.tab16 laws_FnCornersOf.bits16 (fun HT_ HW_ => ?_)
                  generalize wr.drew = w46 at HO_3 HO_4 HR519_0 HB HL530_0 HR530_0 hx530_0 hx531_0 hx531_1 hx531_2 hHeld ⊢
                  refine pure_ (i:=0) (N:=some 60) (v:=?_) (a':=?_) #[true,false,false,false,false,false,false,false,false,false,false,false,false] rfl rfl (any_of HT_.out (by kernel_rfl)) (fun _ _ _ h => h) (Or.inl ⟨by rfl,?_⟩) ?_ ?_;rotate_left
                  ·
                   intro w'
                   go_simp
                   with_reducible rfl
                  rotate_left
                  ·
                   simp only [Act.put,List.setIfInBounds_toArray,List.set_cons_zero,List.set_cons_succ,i64_w,i32_w]
                   rfl
                  refine pure_ (i:=1) (N:=some 61) (v:=?_) (a':=?_) #[true,true,false,false,false,false,false,false,false,false,false,false,false] rfl rfl (any_of HT_.out (by kernel_rfl)) (fun _ _ _ h => h) (Or.inl ⟨by rfl,?_⟩) ?_ ?_;rotate_left
                  ·
                   intro w'
                   go_simp
                   with_reducible rfl
                  rotate_left
                  ·
                   simp only [Act.put,List.setIfInBounds_toArray,List.set_cons_zero,List.set_cons_succ,i64_w,i32_w]
                   rfl
                  refine pure_ (i:=2) (N:=some 62) (v:=?_) (a':=?_) #[true,true,true,false,false,false,false,false,false,false,false,false,false] rfl rfl (any_of HT_.out (by kernel_rfl)) (fun _ _ _ h => h) (Or.inl ⟨by rfl,?_⟩) ?_ ?_;rotate_left
                  ·
                   intro w'
                   go_simp
                   with_reducible rfl
                  rotate_left
                  ·
                   simp only [Act.put,List.setIfInBounds_toArray,List.set_cons_zero,List.set_cons_succ,i64_w,i32_w]
                   rfl
                  refine pure_ (i:=3) (N:=some 63) (v:=?_) (a':=?_) #[true,true,true,true,false,false,false,false,false,false,false,false,false] rfl rfl (any_of HT_.out (by kernel_rfl)) (fun _ _ _ h => h) (Or.inl ⟨by rfl,?_⟩) ?_ ?_;rotate_left
                  ·
                   intro w'
                   go_simp
                   with_reducible rfl
                  rotate_left
                  ·
                   simp only [Act.put,List.setIfInBounds_toArray,List.set_cons_zero,List.set_cons_succ,i64_w,i32_w]
                   rfl
                  refine pure_ (i:=4) (N:=some 64) (v:=?_) (a':=?_) #[true,true,true,true,true,false,false,false,false,false,false,false,false] rfl rfl (any_of HT_.out (by kernel_rfl)) (fun _ _ _ h => h) (Or.inl ⟨by rfl,?_⟩) ?_ ?_;rotate_left
                  ·
                   intro w'
                   go_simp
                   with_reducible rfl
                  rotate_left
                  ·
                   simp only [Act.put,List.setIfInBounds_toArray,List.set_cons_zero,List.set_cons_succ,i64_w,i32_w]
                   rfl
                  refine pure_ (i:=6) (N:=some 66) (v:=?_) (a':=?_) #[true,true,true,true,true,false,true,false,false,false,false,false,false] rfl rfl (any_of HT_.out (by kernel_rfl)) (fun _ _ _ h => h) (Or.inl ⟨by rfl,?_⟩) ?_ ?_;rotate_left
                  ·
                   intro w'
                   go_simp
                   with_reducible rfl
                  rotate_left
                  ·
                   simp only [Act.put,List.setIfInBounds_toArray,List.set_cons_zero,List.set_cons_succ,i64_w,i32_w]
                   rfl
                  refine pure_ (i:=7) (N:=some 67) (v:=?_) (a':=?_) #[true,true,true,true,true,false,true,true,false,false,false,false,false] rfl rfl (any_of HT_.out (by kernel_rfl)) (fun _ _ _ h => h) (Or.inl ⟨by rfl,?_⟩) ?_ ?_;rotate_left
                  ·
                   intro w'
                   go_simp
                   with_reducible rfl
                  rotate_left
                  ·
                   simp only [Act.put,List.setIfInBounds_toArray,List.set_cons_zero,List.set_cons_succ,i64_w,i32_w]
                   rfl
                  refine pure_ (i:=8) (N:=some 68) (v:=?_) (a':=?_) #[true,true,true,true,true,false,true,true,true,false,false,false,false] rfl rfl (any_of HT_.out (by kernel_rfl)) (fun _ _ _ h => h) (Or.inl ⟨by rfl,?_⟩) ?_ ?_;rotate_left
                  ·
                   intro w'
                   go_simp
                   with_reducible rfl
                  rotate_left
                  ·
                   simp only [Act.put,List.setIfInBounds_toArray,List.set_cons_zero,List.set_cons_succ,i64_w,i32_w]
                   rfl
                  refine take_ (i:=5) (N:=some 65) (v:=?_) (a':=?_) #[true,true,true,true,true,true,true,true,true,false,false,false,false] rfl rfl (take_ofW HT_.out HW_.out (by kernel_rfl)) (fun _ _ _ h => h) (Or.inl ⟨by rfl,?_⟩) hHeld ?_ ?_;rotate_left
                  ·
                   rintro w' ⟨s0,s1,s2,s3⟩
                   go_simp
                   with_reducible rfl
                  rotate_left
                  ·
                   simp only [Act.put,List.setIfInBounds_toArray,List.set_cons_zero,List.set_cons_succ,i64_w,i32_w]
                   rfl
                  refine take_ (i:=9) (N:=some 69) (v:=?_) (a':=?_) #[true,true,true,true,true,true,true,true,true,true,false,false,false] rfl rfl (take_ofW HT_.out HW_.out (by kernel_rfl)) (fun _ _ _ h => h) (Or.inl ⟨by rfl,?_⟩) hHeld ?_ ?_;rotate_left
                  ·
                   rintro w' ⟨s0,s1,s2,s3⟩
                   go_simp
                   with_reducible rfl
                  rotate_left
                  ·
                   simp only [Act.put,List.setIfInBounds_toArray,List.set_cons_zero,List.set_cons_succ,i64_w,i32_w]
                   rfl
                  refine one_ (i:=10) (N:=some 70) #[true,true,true,true,true,true,true,true,true,true,true,false,false] rfl rfl (one_of HT_.out (by kernel_rfl)) (by decide) (fun K hK => ?_)
                  refine goes_ Try.func18 (by kernel_rfl) rfl #[.slice A530_0 (rd_L2 t508 x5_1).length c530_0,.agg #[.int .i64 ((rd_T29 t505 x6_2).f0),.int .i64 ((rd_T29 t505 x6_2).f1),.int .i64 ((rd_T29 t505 x6_2).f2)]] (by rfl) rfl rfl (by (try simp only [List.map_toArray,List.map_cons,List.map_nil]);first|done|rfl|(simp only [List.length_drop,List.length_take];rfl)) ?_
                  with_reducible refine (impl_WeighSo.calls k2 _ _ (rd_L2 t508 x5_1) ((rd_T29 t505 x6_2).f0) ((rd_T29 t505 x6_2).f1) ((rd_T29 t505 x6_2).f2) false _ ?side1 ?side2 A42.out).mono ?_
                  (case side1 => repeat (first|exact (by repeat (first|(with_reducible exact HR530_0.out)|(with_reducible refine Kd.C_alloc ?_ _)|(with_reducible refine Kd.C_drewN ?_ _)|(with_reducible refine Kd.C_drew ?_)|exact HR530_0.out))|(with_reducible refine Kd.C_alloc ?_ _)|(with_reducible refine Kd.C_drewN ?_ _)|(with_reducible refine Kd.C_drew ?_)))
                  (case side2 => exact HC530_0.out)
                  rintro e w47 ⟨rfl,hb⟩
                  have HS0_:=(hb.cell (World.block_lt_of_cell? _ _ (hHeld.1))).trans (hHeld.1)
                  have HS1_:=(hb.cell (World.block_lt_of_cell? _ _ (hHeld.2.1))).trans (hHeld.2.1)
                  have HS2_:=(hb.cell (World.block_lt_of_cell? _ _ (hHeld.2.2.1))).trans (hHeld.2.2.1)
                  have HS3_:=(hb.cell (World.block_lt_of_cell? _ _ (hHeld.2.2.2))).trans (hHeld.2.2.2)
                  refine ⟨_,rfl,?_⟩;have n0_:=Aside0.mk (Kd.R_below (rU HO_3.out) hb);have n1_:=Aside0.mk (Kd.N_below (by (with_reducible repeat (first|apply Kd.N_alloc|apply Kd.N_drewN|apply Kd.N_drew));exact HO_4.out) hb);have n2_:=Aside0.mk (Kd.V_below (by (with_reducible repeat (first|apply Kd.V_alloc|apply Kd.V_drewN|apply Kd.V_drew));exact HL530_0.out) hb);have n3_:=Aside0.mk (Kd.C_below (by repeat (first|(with_reducible exact HR519_0.out)|(with_reducible refine Kd.C_alloc ?_ _)|(with_reducible refine Kd.C_drewN ?_ _)|(with_reducible refine Kd.C_drew ?_)|exact HR519_0.out)) hb);have n4_:=Aside0.mk (Kd.C_below (by repeat (first|(with_reducible exact HR530_0.out)|(with_reducible refine Kd.C_alloc ?_ _)|(with_reducible refine Kd.C_drewN ?_ _)|(with_reducible refine Kd.C_drew ?_)|exact HR530_0.out)) hb);have n5_:=Aside0.mk (below_step (belU HB.out) hb);clear HO_3 HO_4 HL530_0 HR519_0 HR530_0 HB;have HO_3:=n0_;have HO_4:=n1_;have HL530_0:=n2_;have HR519_0:=n3_;have HR530_0:=n4_;have HB:=n5_;clear n0_ n1_ n2_ n3_ n4_ n5_
                  (try clear hb)
                  (try clear hb2)
                  (try clear hk)
                  (try clear hi)
                  refine hK.out _ _ ⟨HS0_,HS1_,HS2_,HS3_⟩ (fun hHeld => ?_);clear hK K
                  refine norm_ (a':=?_) ?_ ?_;rotate_left
                  ·
                   show Act.put _ (some 70) _ = _
                   simp only [Act.put,List.setIfInBounds_toArray,List.set_cons_zero,List.set_cons_succ,i64_w,i32_w]
                   rfl
                  refine pure_ (i:=11) (N:=some 71) (v:=?_) (a':=?_) #[true,true,true,true,true,true,true,true,true,true,true,true,false] rfl rfl (any_of HT_.out (by kernel_rfl)) (fun _ _ _ h => h) (Or.inl ⟨by rfl,?_⟩) ?_ ?_;rotate_left
                  ·
                   intro w'
                   go_simp
                   with_reducible rfl
                  rotate_left
                  ·
                   simp only [Act.put,List.setIfInBounds_toArray,List.set_cons_zero,List.set_cons_succ,i64_w,i32_w]
                   rfl
                  refine pure_ (i:=12) (N:=some 72) (v:=?_) (a':=?_) #[true,true,true,true,true,true,true,true,true,true,true,true,true] rfl rfl (any_of HT_.out (by kernel_rfl)) (fun _ _ _ h => h) (Or.inl ⟨by rfl,?_⟩) ?_ ?_;rotate_left
                  ·
                   intro w'
                   go_simp
                   with_reducible rfl
                  rotate_left
                  ·
                   simp only [Act.put,List.setIfInBounds_toArray,List.set_cons_zero,List.set_cons_succ,i64_w,i32_w]
                   rfl
                  refine done_ (done_of HT_.out (by kernel_rfl)) ?_
                  try go_wp2
                  go_ret
                  exact ⟨by first|rfl|(simp [errW_none,errW_some] <;> rfl)|(simp [*,errW_none,errW_some] <;> rfl),belU HB.out⟩
                ·
                 rw [if_neg c41] at H
                 exact absurd H (by simp)
               ·
                rw [if_neg c40] at H
                exact absurd H (by simp)
              ·
               rw [if_neg c39] at H
               have c39b0 : (((rd_T29 t505 x6_2).f0) == 5) = false:=beq_eq_false_iff_ne.mpr c39
               have c39b1 : (((rd_T29 t505 x6_2).f0) != 5) = true:=bne_iff_ne.mpr c39
               have H':=Aside0.mk H;clear H
               have p521 : 0 ≤ (x6_2 : Int):=of_decide_eq_true (by first|(with_reducible assumption)|assumption)
               have q521 : x6_2 < (t505.length : Int):=of_decide_eq_true (by first|(with_reducible assumption)|assumption)
               obtain ⟨ad521,e521,hx521_0,hx521_1,hx521_2⟩:=at_T29 (Kd.R_reads' HO_3.out).2.2 x6_2 p521 q521
               cases e521
               replace p521:=eq_true p521
               replace q521:=eq_true q521
               have p525 : 0 ≤ (x6_2 : Int):=of_decide_eq_true (by first|(with_reducible assumption)|assumption)
               have q525 : x6_2 < (t505.length : Int):=of_decide_eq_true (by first|(with_reducible assumption)|assumption)
               obtain ⟨ad525,e525,hx525_0,hx525_1,hx525_2⟩:=at_T29 (Kd.R_reads' HO_3.out).2.2 x6_2 p525 q525
               obtain rfl : ad521 = ad525:=(by injection e525)
               replace p525:=eq_true p525
               replace q525:=eq_true q525
               have p529 : 0 ≤ (x6_2 : Int):=of_decide_eq_true (by first|(with_reducible assumption)|assumption)
               have q529 : x6_2 < (t505.length : Int):=of_decide_eq_true (by first|(with_reducible assumption)|assumption)
               obtain ⟨ad529,e529,hx529_0,hx529_1,hx529_2⟩:=at_T29 (Kd.R_reads' HO_3.out).2.2 x6_2 p529 q529
               obtain rfl : ad521 = ad529:=(by injection e529)
               replace p529:=eq_true p529
               replace q529:=eq_true q529
               try go_wp2
               have n0_:=Aside0.mk (Kd.R_drew HO_3.out);have n1_:=Aside0.mk (Kd.N_drew HO_4.out);have n2_:=Aside0.mk (Kd.C_drew HR519_0.out);have n3_:=Aside0.mk (below_drew1 HB.out);clear HO_3 HO_4 HR519_0 HB;have HO_3:=n0_;have HO_4:=n1_;have HR519_0:=n2_;have HB:=n3_;clear n0_ n1_ n2_ n3_
               refine start_ (n:=13) (S:=fun w' => True) (ds:=[]) #[false,false,false,false,false,false,false,false,false,false,false,false,false] (by kernel_rfl) rfl rfl trivial (fun hHeld => ?_);refine with_tabW laws_FnCornersOf.tab16 laws_FnCornersOf.bits16 (fun HT_ HW_ => ?_)
               generalize wr.drew = w48 at HO_3 HO_4 HR519_0 HB hHeld ⊢
               refine pure_ (i:=0) (N:=some 60) (v:=?_) (a':=?_) #[true,false,false,false,false,false,false,false,false,false,false,false,false] rfl rfl (any_of HT_.out (by kernel_rfl)) (fun _ _ _ h => h) (Or.inl ⟨by rfl,?_⟩) ?_ ?_;rotate_left
               ·
                intro w'
                go_simp
                with_reducible rfl
               rotate_left
               ·
                simp only [Act.put,List.setIfInBounds_toArray,List.set_cons_zero,List.set_cons_succ,i64_w,i32_w]
                rfl
               refine pure_ (i:=1) (N:=some 61) (v:=?_) (a':=?_) #[true,true,false,false,false,false,false,false,false,false,false,false,false] rfl rfl (any_of HT_.out (by kernel_rfl)) (fun _ _ _ h => h) (Or.inl ⟨by rfl,?_⟩) ?_ ?_;rotate_left
               ·
                intro w'
                go_simp
                with_reducible rfl
               rotate_left
               ·
                simp only [Act.put,List.setIfInBounds_toArray,List.set_cons_zero,List.set_cons_succ,i64_w,i32_w]
                rfl
               refine pure_ (i:=2) (N:=some 62) (v:=undef) (a':=?_) #[true,true,true,false,false,false,false,false,false,false,false,false,false] rfl rfl (any_of HT_.out (by kernel_rfl)) (fun _ _ _ h => h) (Or.inr ⟨by rfl,rfl⟩) ?_ ?_;rotate_left
               ·
                simp only [Act.put,List.setIfInBounds_toArray,List.set_cons_zero,List.set_cons_succ,i64_w,i32_w]
                rfl
               refine pure_ (i:=3) (N:=some 63) (v:=undef) (a':=?_) #[true,true,true,true,false,false,false,false,false,false,false,false,false] rfl rfl (any_of HT_.out (by kernel_rfl)) (fun _ _ _ h => h) (Or.inr ⟨by rfl,rfl⟩) ?_ ?_;rotate_left
               ·
                simp only [Act.put,List.setIfInBounds_toArray,List.set_cons_zero,List.set_cons_succ,i64_w,i32_w]
                rfl
               refine pure_ (i:=4) (N:=some 64) (v:=undef) (a':=?_) #[true,true,true,true,true,false,false,false,false,false,false,false,false] rfl rfl (any_of HT_.out (by kernel_rfl)) (fun _ _ _ h => h) (Or.inr ⟨by rfl,rfl⟩) ?_ ?_;rotate_left
               ·
                simp only [Act.put,List.setIfInBounds_toArray,List.set_cons_zero,List.set_cons_succ,i64_w,i32_w]
                rfl
               refine pure_ (i:=5) (N:=some 65) (v:=undef) (a':=?_) #[true,true,true,true,true,true,false,false,false,false,false,false,false] rfl rfl (any_of HT_.out (by kernel_rfl)) (fun _ _ _ h => h) (Or.inr ⟨by rfl,rfl⟩) ?_ ?_;rotate_left
               ·
                simp only [Act.put,List.setIfInBounds_toArray,List.set_cons_zero,List.set_cons_succ,i64_w,i32_w]
                rfl
               refine pure_ (i:=6) (N:=some 66) (v:=undef) (a':=?_) #[true,true,true,true,true,true,true,false,false,false,false,false,false] rfl rfl (any_of HT_.out (by kernel_rfl)) (fun _ _ _ h => h) (Or.inr ⟨by rfl,rfl⟩) ?_ ?_;rotate_left
               ·
                simp only [Act.put,List.setIfInBounds_toArray,List.set_cons_zero,List.set_cons_succ,i64_w,i32_w]
                rfl
               refine pure_ (i:=7) (N:=some 67) (v:=undef) (a':=?_) #[true,true,true,true,true,true,true,true,false,false,false,false,false] rfl rfl (any_of HT_.out (by kernel_rfl)) (fun _ _ _ h => h) (Or.inr ⟨by rfl,rfl⟩) ?_ ?_;rotate_left
               ·
                simp only [Act.put,List.setIfInBounds_toArray,List.set_cons_zero,List.set_cons_succ,i64_w,i32_w]
                rfl
               refine pure_ (i:=8) (N:=some 68) (v:=undef) (a':=?_) #[true,true,true,true,true,true,true,true,true,false,false,false,false] rfl rfl (any_of HT_.out (by kernel_rfl)) (fun _ _ _ h => h) (Or.inr ⟨by rfl,rfl⟩) ?_ ?_;rotate_left
               ·
                simp only [Act.put,List.setIfInBounds_toArray,List.set_cons_zero,List.set_cons_succ,i64_w,i32_w]
                rfl
               refine pure_ (i:=9) (N:=some 69) (v:=undef) (a':=?_) #[true,true,true,true,true,true,true,true,true,true,false,false,false] rfl rfl (any_of HT_.out (by kernel_rfl)) (fun _ _ _ h => h) (Or.inr ⟨by rfl,rfl⟩) ?_ ?_;rotate_left
               ·
                simp only [Act.put,List.setIfInBounds_toArray,List.set_cons_zero,List.set_cons_succ,i64_w,i32_w]
                rfl
               refine pure_ (i:=10) (N:=some 70) (v:=undef) (a':=?_) #[true,true,true,true,true,true,true,true,true,true,true,false,false] rfl rfl (any_of HT_.out (by kernel_rfl)) (fun _ _ _ h => h) (Or.inr ⟨by rfl,rfl⟩) ?_ ?_;rotate_left
               ·
                simp only [Act.put,List.setIfInBounds_toArray,List.set_cons_zero,List.set_cons_succ,i64_w,i32_w]
                rfl
               refine pure_ (i:=11) (N:=some 71) (v:=undef) (a':=?_) #[true,true,true,true,true,true,true,true,true,true,true,true,false] rfl rfl (any_of HT_.out (by kernel_rfl)) (fun _ _ _ h => h) (Or.inr ⟨by rfl,rfl⟩) ?_ ?_;rotate_left
               ·
                simp only [Act.put,List.setIfInBounds_toArray,List.set_cons_zero,List.set_cons_succ,i64_w,i32_w]
                rfl
               refine pure_ (i:=12) (N:=some 72) (v:=?_) (a':=?_) #[true,true,true,true,true,true,true,true,true,true,true,true,true] rfl rfl (any_of HT_.out (by kernel_rfl)) (fun _ _ _ h => h) (Or.inl ⟨by rfl,?_⟩) ?_ ?_;rotate_left
               ·
                intro w'
                go_simp
                with_reducible rfl
               rotate_left
               ·
                simp only [Act.put,List.setIfInBounds_toArray,List.set_cons_zero,List.set_cons_succ,i64_w,i32_w]
                rfl
               refine done_ (done_of HT_.out (by kernel_rfl)) ?_
               try go_wp2
               go_roundg k2
               case measure => have:=HK1.out;have:=HK2.out;omega
               case rel => exact ⟨(wrap64 (x6_2 + 1)),(by first|rfl|(simp;done)|(simp [*];done)),H',⟨by have:=HK1.out;have:=HK2.out;omega⟩,⟨rU HO_3.out⟩,⟨by (with_reducible repeat (first|apply Kd.N_alloc|apply Kd.N_drewN|apply Kd.N_drew));exact HO_4.out⟩,⟨by repeat (first|(with_reducible exact HR519_0.out)|(with_reducible refine Kd.C_alloc ?_ _)|(with_reducible refine Kd.C_drewN ?_ _)|(with_reducible refine Kd.C_drew ?_)|exact HR519_0.out)⟩,⟨belU HB.out⟩⟩
           ·
            rw [if_neg c20] at H
            exact absurd H (by simp)
          ·
           rw [if_neg c19] at H
           have c19b0 : decide (x6_2 < (t505.length : Int)) = false:=decide_eq_false c19;clear c19
           have H':=Aside0.mk H;clear H
           go_wp2
           go_roundg k2
           case measure => have:=HK1.out;have:=HK2.out;omega
           case rel => exact ⟨(wrap64 (x5_1 + 1)),(by first|rfl|(simp;done)|(simp [*];done)),H',⟨by have:=HK1.out;have:=HK2.out;omega⟩,⟨rU HO_3.out⟩,⟨by (with_reducible repeat (first|apply Kd.N_alloc|apply Kd.N_drewN|apply Kd.N_drew));exact HO_4.out⟩,⟨belU HB.out⟩⟩
       ·
        replace c17:=Bool.eq_false_iff.mpr c17;subst c17
        have H1 : (some false) = some r:=by rw [if_neg (show ¬ (false = true) by decide)] at H;exact H
        clear H;have H:=H1;clear H1
        obtain rfl:=Option.some.inj H
        have p519 : 0 ≤ (x5_1 : Int):=of_decide_eq_true (by first|(with_reducible assumption)|assumption)
        have q519 : x5_1 < (t508.length : Int):=of_decide_eq_true (by first|(with_reducible assumption)|assumption)
        obtain ⟨ad519,A519_0,c519_0,e519,hx519_0,hl519_0,hi519_0⟩:=at_L2 (Kd.N_reads' HO_4.out).2.2 x5_1 p519 q519
        cases e519
        obtain ⟨ce519,hce519,hMe519,hcc519⟩:=Kd.N_get HO_4.out [] x5_1 p519 (by first|exact q519|exact of_decide_eq_true (by first|(with_reducible assumption)|assumption)|(have e_:=(Kd.N_reads' HO_4.out).1;omega))
        obtain ⟨ua519_0,uc519_0,rfl,ul519_0,ge519_0⟩:=Kd.FK_slice_open hMe519
        have hv519_0:=hcc519 0 _ rfl
        rw [Nat.add_zero,show ((Kd.slice 3 (Kd.int .i64))).sz = 1 from rfl,Nat.mul_one] at hv519_0
        replace hv519_0:=Option.some.inj (hv519_0.symm.trans hx519_0)
        injection hv519_0 with hva_ hvn_ hvc_
        rw [hva_] at ge519_0
        rw [hvc_] at ul519_0;have HL519_0:=Aside0.mk (show Kd.V (Kd.int .i64) 3 _ w.heap.size _ _ (rd_L2 t508 x5_1) from Kd.V_mk ul519_0 ge519_0);clear hva_ hvn_ hvc_ ge519_0 ul519_0 hcc519 hce519
        have HR519_0:=Aside0.mk hi519_0
        have HC519_0:=Aside0.mk hl519_0;clear hi519_0 hl519_0
        replace p519:=eq_true p519
        replace q519:=eq_true q519
        go_wp2_with (first|((with_reducible refine gate_callee (f:=26) rfl ?_);refine goesL_ (some 30) rfl rfl Try.func26 (by kernel_rfl) rfl #[.slice A519_0 (rd_L2 t508 x5_1).length c519_0] rfl (by (try simp only [List.map_toArray,List.map_cons,List.map_nil]);first|done|rfl|(simp only [List.length_drop,List.length_take];rfl)) ?_;(with_reducible refine (impl_CountsOk.calls _ _ (rd_L2 t508 x5_1) false _ ?side1 ?side2 A16.out).mono ?_);(case side1 => repeat (first|exact (by repeat (first|(with_reducible exact HR519_0.out)|(with_reducible refine Kd.C_alloc ?_ _)|(with_reducible refine Kd.C_drewN ?_ _)|(with_reducible refine Kd.C_drew ?_)|exact HR519_0.out))|(with_reducible refine Kd.C_alloc ?_ _)|(with_reducible refine Kd.C_drewN ?_ _)|(with_reducible refine Kd.C_drew ?_)));(case side2 => exact HC519_0.out);rintro e w49 ⟨rfl,hb⟩;refine ⟨_,rfl,?_⟩;have n0_:=Aside0.mk (Kd.R_below (rU HO_3.out) hb);have n1_:=Aside0.mk (Kd.N_below (by (with_reducible repeat (first|apply Kd.N_alloc|apply Kd.N_drewN|apply Kd.N_drew));exact HO_4.out) hb);have n2_:=Aside0.mk (Kd.V_below (by (with_reducible repeat (first|apply Kd.V_alloc|apply Kd.V_drewN|apply Kd.V_drew));exact HL519_0.out) hb);have n3_:=Aside0.mk (Kd.C_below (by repeat (first|(with_reducible exact HR519_0.out)|(with_reducible refine Kd.C_alloc ?_ _)|(with_reducible refine Kd.C_drewN ?_ _)|(with_reducible refine Kd.C_drew ?_)|exact HR519_0.out)) hb);have n4_:=Aside0.mk (below_step (belU HB.out) hb);clear HO_3 HO_4 HL519_0 HR519_0 HB;have HO_3:=n0_;have HO_4:=n1_;have HL519_0:=n2_;have HR519_0:=n3_;have HB:=n4_;clear n0_ n1_ n2_ n3_ n4_;(try clear hb);(try clear hb2);(try clear hk);(try clear hi)))
        go_ret
        exact ⟨by first|rfl|(simp [errW_none,errW_some] <;> rfl)|(simp [*,errW_none,errW_some] <;> rfl),belU HB.out⟩
      ·
       rw [if_neg c15] at H
       exact absurd H (by simp)
     ·
      rw [if_neg c14] at H
      have c14b0 : decide (x5_1 < (t508.length : Int)) = false:=decide_eq_false c14;clear c14
      replace H:=Option.bind_eq_some_iff.mp H
      obtain ⟨t515,A500,H⟩:=H
      replace H : (if (t515.length : Int) = 4 then ((laws_alive.f).bind fun t518 => (some t518)) else (some false)) = some r:=H
      have A50:=Aside0.mk A500;clear A500
      by_cases c51 : (t515.length : Int) = 4
      ·
       rw [if_pos c51] at H
       have c51b0 : ((t515.length : Int) == 4) = true:=beq_iff_eq.mpr c51
       have c51b1 : ((t515.length : Int) != 4) = false:=bne_eq_false_iff_eq.mpr c51;clear c51
       replace H:=Option.bind_eq_some_iff.mp H
       obtain ⟨t518,A520,H⟩:=H
       replace H : (some t518) = some r:=H
       have A52:=Aside0.mk A520;clear A520
       obtain rfl:=Option.some.inj H
       go_wp2_with (first|((with_reducible refine gate_callee (f:=23) rfl ?_);refine goesL_ (some 73) rfl rfl Try.func23 (by kernel_rfl) rfl #[.slice none 0 0] rfl (by (try simp only [List.map_toArray,List.map_cons,List.map_nil]);first|done|rfl|(simp only [List.length_drop,List.length_take];rfl)) ?_;(refine (impl_CornersOf.calls _ _ ([] : List (S29)) t515 _ ?side1 ?side2 A50.out).mono ?_);(case side1 => exact Kd.C_nil _ _);(case side2 => exact Nat.le_refl _);rintro e w53 ⟨v516,rfl,ho0,hb⟩;refine ⟨_,rfl,?_⟩;have n0_:=Aside0.mk (Kd.R_below (rU HO_3.out) hb);have n1_:=Aside0.mk (Kd.N_elder' (by (with_reducible repeat (first|apply Kd.N_alloc|apply Kd.N_drewN|apply Kd.N_drew));exact HO_4.out) (Kd.N_base (Kd.S_N ho0)) hb);have n2_:=Aside0.mk (Kd.N_lower (Kd.N_mono (ok':=fun k_ => some k_ ≠ (.slice Ao9 t505.length co9 : Value).ownBlock ∧ some k_ ≠ (.slice Ao12 t508.length co12 : Value).ownBlock) (Kd.S_N (Kd.S_bound ho0)) (fun k_ hk_ => ⟨(Kd.fresh' (Kd.R_lt (rU HO_3.out)) k_ hk_.2.1),(Kd.fresh' (Kd.N_lt (by (with_reducible repeat (first|apply Kd.N_alloc|apply Kd.N_drewN|apply Kd.N_drew));exact HO_4.out)) k_ hk_.2.1)⟩)) (below_size (belU HB.out)));have n3_:=Aside0.mk (below_step (belU HB.out) hb);clear HO_3 HO_4 HB;have HO_3:=n0_;have HO_4:=n1_;have HO517:=n2_;have HB:=n3_;clear n0_ n1_ n2_ n3_;(try clear hb);(try clear hb2);(try clear hk);(try clear hi);(try clear ho0);obtain ⟨Ao54,co54,eo54⟩:=Kd.N_slice HO517.out;subst eo54)|(go_at_call 21;(with_reducible refine (laws_alive.calls  t518 _ A52.out).mono ?_);rintro e w' ⟨rfl,⟨nd,rfl⟩⟩))
       go_ret
       exact ⟨by first|rfl|(simp [errW_none,errW_some] <;> rfl)|(simp [*,errW_none,errW_some] <;> rfl),belU HB.out⟩
      ·
       rw [if_neg c51] at H
       have c51b0 : ((t515.length : Int) == 4) = false:=beq_eq_false_iff_ne.mpr c51
       have c51b1 : ((t515.length : Int) != 4) = true:=bne_iff_ne.mpr c51
       obtain rfl:=Option.some.inj H
       go_wp2_with (first|((with_reducible refine gate_callee (f:=23) rfl ?_);refine goesL_ (some 73) rfl rfl Try.func23 (by kernel_rfl) rfl #[.slice none 0 0] rfl (by (try simp only [List.map_toArray,List.map_cons,List.map_nil]);first|done|rfl|(simp only [List.length_drop,List.length_take];rfl)) ?_;(refine (impl_CornersOf.calls _ _ ([] : List (S29)) t515 _ ?side1 ?side2 A50.out).mono ?_);(case side1 => exact Kd.C_nil _ _);(case side2 => exact Nat.le_refl _);rintro e w55 ⟨v516,rfl,ho0,hb⟩;refine ⟨_,rfl,?_⟩;have n0_:=Aside0.mk (Kd.R_below (rU HO_3.out) hb);have n1_:=Aside0.mk (Kd.N_elder' (by (with_reducible repeat (first|apply Kd.N_alloc|apply Kd.N_drewN|apply Kd.N_drew));exact HO_4.out) (Kd.N_base (Kd.S_N ho0)) hb);have n2_:=Aside0.mk (Kd.N_lower (Kd.N_mono (ok':=fun k_ => some k_ ≠ (.slice Ao9 t505.length co9 : Value).ownBlock ∧ some k_ ≠ (.slice Ao12 t508.length co12 : Value).ownBlock) (Kd.S_N (Kd.S_bound ho0)) (fun k_ hk_ => ⟨(Kd.fresh' (Kd.R_lt (rU HO_3.out)) k_ hk_.2.1),(Kd.fresh' (Kd.N_lt (by (with_reducible repeat (first|apply Kd.N_alloc|apply Kd.N_drewN|apply Kd.N_drew));exact HO_4.out)) k_ hk_.2.1)⟩)) (below_size (belU HB.out)));have n3_:=Aside0.mk (below_step (belU HB.out) hb);clear HO_3 HO_4 HB;have HO_3:=n0_;have HO_4:=n1_;have HO517:=n2_;have HB:=n3_;clear n0_ n1_ n2_ n3_;(try clear hb);(try clear hb2);(try clear hk);(try clear hi);(try clear ho0);obtain ⟨Ao56,co56,eo56⟩:=Kd.N_slice HO517.out;subst eo56))
       go_ret
       exact ⟨by first|rfl|(simp [errW_none,errW_some] <;> rfl)|(simp [*,errW_none,errW_some] <;> rfl),belU HB.out⟩
  ·
   replace c7:=Bool.eq_false_iff.mpr c7;subst c7
   have H1 : (some false) = some r:=by rw [if_neg (show ¬ (false = true) by decide)] at H;exact H
   clear H;have H:=H1;clear H1
   obtain rfl:=Option.some.inj H
   go_enter Try.func5,Try.ntmps5
   go_wp2_with (first|((with_reducible refine gate_callee (f:=22) rfl ?_);refine goesL_ (some 12) rfl rfl Try.func22 (by kernel_rfl) rfl #[.slice A0 l0.length c0] rfl (by (try simp only [List.map_toArray,List.map_cons,List.map_nil]);first|done|rfl|(simp only [List.length_drop,List.length_take];rfl)) ?_;(with_reducible refine (spec_DrawCornersOf.calls k _ _ l0 t505 _ ?side1 ?side2 A3.out).mono ?_);(case side1 => repeat (first|exact HR0.out|(with_reducible refine Kd.C_alloc ?_ _)|(with_reducible refine Kd.C_drewN ?_ _)|(with_reducible refine Kd.C_drew ?_)));(case side2 => exact HC0.out);rintro e w57 ⟨v506,rfl,ho0,hb⟩;refine ⟨_,rfl,?_⟩;have n0_:=Aside0.mk (Kd.R_lower ho0 (below_size (belU HB.out)));have n1_:=Aside0.mk (below_step (belU HB.out) hb);clear HB;have HO507:=n0_;have HB:=n1_;clear n0_ n1_;(try clear hb);(try clear hb2);(try clear hk);(try clear hi);(try clear ho0);obtain ⟨Ao58,co58,eo58⟩:=Kd.R_slice HO507.out;subst eo58)|((with_reducible refine gate_callee (f:=23) rfl ?_);refine goesL_ (some 14) rfl rfl Try.func23 (by kernel_rfl) rfl #[.slice Ao58 t505.length co58] rfl (by (try simp only [List.map_toArray,List.map_cons,List.map_nil]);first|done|rfl|(simp only [List.length_drop,List.length_take];rfl)) ?_;(with_reducible refine (impl_CornersOf.calls _ _ t505 t508 _ ?side1 ?side2 A4.out).mono ?_);(case side1 => exact cU (Kd.R_reads' HO507.out).2.2);(case side2 => exact (Kd.R_reads' HO507.out).2.1);rintro e w59 ⟨v509,rfl,ho0,hb⟩;refine ⟨_,rfl,?_⟩;have n0_:=Aside0.mk (Kd.R_below (rU HO507.out) hb);have n1_:=Aside0.mk (Kd.N_lower (Kd.N_mono (ok':=fun k_ => some k_ ≠ (.slice Ao58 t505.length co58 : Value).ownBlock) (Kd.S_N (Kd.S_bound ho0)) (fun k_ hk_ => (Kd.fresh' (Kd.R_lt (rU HO507.out)) k_ hk_.2.1))) (below_size (belU HB.out)));have n2_:=Aside0.mk (below_step (belU HB.out) hb);clear HO507 HB;have HO507:=n0_;have HO510:=n1_;have HB:=n2_;clear n0_ n1_ n2_;(try clear hb);(try clear hb2);(try clear hk);(try clear hi);(try clear ho0))|((with_reducible refine gate_callee (f:=25) rfl ?_);refine goesL_ (some 17) rfl rfl Try.func25 (by kernel_rfl) rfl #[.slice Ao58 t505.length co58] rfl (by (try simp only [List.map_toArray,List.map_cons,List.map_nil]);first|done|rfl|(simp only [List.length_drop,List.length_take];rfl)) ?_;(with_reducible refine (spec_CornersOf.calls k _ _ t505 t511 _ ?side1 ?side2 A5.out).mono ?_);(case side1 => exact cU (Kd.R_reads' HO507.out).2.2);(case side2 => exact (Kd.R_reads' HO507.out).2.1);rintro e w60 ⟨v512,rfl,ho0,hb⟩;refine ⟨_,rfl,?_⟩;have n0_:=Aside0.mk (Kd.R_below (rU HO507.out) hb);have n1_:=Aside0.mk (Kd.N_elder' (by (with_reducible repeat (first|apply Kd.N_alloc|apply Kd.N_drewN|apply Kd.N_drew));exact HO510.out) (Kd.N_base ho0) hb);have n2_:=Aside0.mk (Kd.N_lower (Kd.N_mono (ok':=fun k_ => some k_ ≠ (.slice Ao58 t505.length co58 : Value).ownBlock ∧ some k_ ≠ (v509 : Value).ownBlock) ho0 (fun k_ hk_ => ⟨(Kd.fresh' (Kd.R_lt (rU HO507.out)) k_ hk_),(Kd.fresh' (Kd.N_lt (by (with_reducible repeat (first|apply Kd.N_alloc|apply Kd.N_drewN|apply Kd.N_drew));exact HO510.out)) k_ hk_)⟩)) (below_size (belU HB.out)));have n3_:=Aside0.mk (below_step (belU HB.out) hb);clear HO507 HO510 HB;have HO507:=n0_;have HO510:=n1_;have HO513:=n2_;have HB:=n3_;clear n0_ n1_ n2_ n3_;(try clear hb);(try clear hb2);(try clear hk);(try clear hi);(try clear ho0);obtain ⟨Ao61,co61,eo61⟩:=Kd.N_slice HO510.out;subst eo61;obtain ⟨Ao62,co62,eo62⟩:=Kd.N_slice HO513.out;subst eo62)|((with_reducible refine gate_callee (f:=24) rfl ?_);refine goesL_ (some 18) rfl rfl Try.func24 (by kernel_rfl) rfl #[.slice Ao61 t508.length co61,.slice Ao62 t511.length co62] rfl (by (try simp only [List.map_toArray,List.map_cons,List.map_nil]);first|done|rfl|(simp only [List.length_drop,List.length_take];rfl)) ?_;(with_reducible refine (laws_sameRows.calls k _ _ t508 _ _ t511 false _ ?side1 ?side2 ?side3 ?side4 A6.out).mono ?_);(case side1 => exact cU (Kd.N_reads' HO510.out).2.2);(case side2 => exact (Kd.N_reads' HO510.out).2.1);(case side3 => exact cU (Kd.N_reads' HO513.out).2.2);(case side4 => exact (Kd.N_reads' HO513.out).2.1);rintro e w' ⟨rfl,⟨nd,rfl⟩⟩;refine ⟨_,rfl,?_⟩))
   go_ret
   exact ⟨by first|rfl|(simp [errW_none,errW_some] <;> rfl)|(simp [*,errW_none,errW_some] <;> rfl),belU HB.out⟩

/-- THE ONE PURE STATEMENT of laws_FnCornersOf: yours. -/
def laws_FnCornersOf.Pure : Prop:=∀ (l0 : List Int),l0.length ≤ maxLen → l0.length * 1 ≤ 140737488351232 → (∀ x ∈ l0,(Lit.int .u8 x).wf = true) → ∃ k,laws_FnCornersOf.f k l0 = some true
end Go.Proofs.Ytmbninbecclbiaa.PA
