/- The machine side of functions of this seat, written by the session's program myprint.py: for each Go function a Lean function and the proof that the call answers just it. -/
import Derived.Test.YtjfgbpmkboncnaaDoorPAx0
import Derived.Test.YtjfgbpmkboncnaaDoorUp
import Derived.Test.YtjfgbpmkboncnaaDoorPAx6
import Derived.Test.YtjfgbpmkboncnaaDoorPAx21
import Derived.Test.YtjfgbpmkboncnaaDoorPAx22
namespace Go.Proofs.YtjfgbpmkboncnaaDoor.PA
open Go.RowKit Go.Proofs.YtjfgbpmkboncnaaDoorW.PrintWords Go.Proofs.YtjfgbpmkboncnaaDoorW.PrintLast Go.Proofs.YtjfgbpmkboncnaaDoorW.PrintMore
attribute [local go_sem] max2_int min2_int max_two min_two max_three min_three max_four min_four   -- for this text's walks alone
set_option linter.unusedVariables false
set_option linter.unusedSimpArgs false

/-! ### impl_NoCircle: function 11 -/
mutual
def impl_NoCircle.l0 : Nat → List Int → Int → Int → List Int → List Int → List Int → Option (Bool)
 | 0,_,_,_,_,_,_ => none
 | k + 1,x11,x12,x13,x448000,x448001,x448002 => if x13 < x12 then (if 0 ≤ x13 then (if x13 < (x11.length : Int) then ((impl_Machine_reached.f k x448000 x448001 x448002 (rd x11 x13)).bind fun t453 => (impl_NoCircle.l1 k (rd x11 x13) x11 x12 x13 t453 (t453.length : Int) 0 x448000 x448001 x448002)) else (none)) else (none)) else (some true)
def impl_NoCircle.l1 : Nat → Int → List Int → Int → Int → List Int → Int → Int → List Int → List Int → List Int → Option (Bool)
 | 0,_,_,_,_,_,_,_,_,_,_ => none
 | k + 1,x4,x11,x12,x13,x19,x20,x21,x448000,x448001,x448002 => if x21 < x20 then (if 0 ≤ x21 then (if x21 < (x19.length : Int) then (if (rd x19 x21) = x4 then (impl_NoCircle.l1 k x4 x11 x12 x13 x19 x20 (wrap64 (x21 + 1)) x448000 x448001 x448002) else ((impl_Machine_reached.f k x448000 x448001 x448002 (rd x19 x21)).bind fun t457 => ((slices_Contains_int_int.f k t457 x4).bind fun t460 => (if t460 = true then (some false) else (impl_NoCircle.l1 k x4 x11 x12 x13 x19 x20 (wrap64 (x21 + 1)) x448000 x448001 x448002))))) else (none)) else (none)) else (impl_NoCircle.l0 k x11 x12 (wrap64 (x13 + 1)) x448000 x448001 x448002)
end
def impl_NoCircle.f (k : Nat) (l0_0 : List Int) (l0_1 : List Int) (l0_2 : List Int) : Option (Bool):=(impl_isMachine.f k l0_0 l0_1 l0_2).bind fun t448 => (if t448 = true then ((impl_Machine_reached.f k l0_0 l0_1 l0_2 0).bind fun t449 => (impl_NoCircle.l0 k t449 (t449.length : Int) 0 l0_0 l0_1 l0_2)) else (some false))
theorem impl_NoCircle.mono_l : ∀ k,(∀ y0 y1 y2 y3 y4 y5,LeO (impl_NoCircle.l0 k y0 y1 y2 y3 y4 y5) (impl_NoCircle.l0 (k + 1) y0 y1 y2 y3 y4 y5)) ∧ (∀ y0 y1 y2 y3 y4 y5 y6 y7 y8 y9,LeO (impl_NoCircle.l1 k y0 y1 y2 y3 y4 y5 y6 y7 y8 y9) (impl_NoCircle.l1 (k + 1) y0 y1 y2 y3 y4 y5 y6 y7 y8 y9))
 | 0 => ⟨fun _ _ _ _ _ _ r h => by simp [impl_NoCircle.l0] at h,fun _ _ _ _ _ _ _ _ _ _ r h => by simp [impl_NoCircle.l1] at h⟩
 | k + 1 => by
  obtain ⟨ih0,ih1⟩:=impl_NoCircle.mono_l k
  refine ⟨?_,?_⟩
  ·
   intro y0 y1 y2 y3 y4 y5
   unfold impl_NoCircle.l0
   repeat' first
   | (with_reducible exact ih0 _ _ _ _ _ _)
   | (with_reducible exact ih1 _ _ _ _ _ _ _ _ _ _)
   | (with_reducible exact impl_Machine_reached.mono _ _ _ _ _)
   | (with_reducible exact impl_isMachine.mono _ _ _ _)
   | (with_reducible exact slices_Contains_int_int.mono _ _ _)
   | (with_reducible exact LeO.refl _)
   | (with_reducible exact LeO.none _)
   | (with_reducible refine LeO.ite ?_ ?_)
   | (with_reducible refine LeO.bind ?_ (fun _ => ?_))
   | exact ih0 _ _ _ _ _ _
   | exact ih1 _ _ _ _ _ _ _ _ _ _
   | exact impl_Machine_reached.mono _ _ _ _ _
   | exact impl_isMachine.mono _ _ _ _
   | exact slices_Contains_int_int.mono _ _ _
   | exact LeO.none _
   | refine LeO.ite ?_ ?_
   | refine LeO.bind ?_ (fun _ => ?_)
  ·
   intro y0 y1 y2 y3 y4 y5 y6 y7 y8 y9
   unfold impl_NoCircle.l1
   repeat' first
   | (with_reducible exact ih0 _ _ _ _ _ _)
   | (with_reducible exact ih1 _ _ _ _ _ _ _ _ _ _)
   | (with_reducible exact impl_Machine_reached.mono _ _ _ _ _)
   | (with_reducible exact impl_isMachine.mono _ _ _ _)
   | (with_reducible exact slices_Contains_int_int.mono _ _ _)
   | (with_reducible exact LeO.refl _)
   | (with_reducible exact LeO.none _)
   | (with_reducible refine LeO.ite ?_ ?_)
   | (with_reducible refine LeO.bind ?_ (fun _ => ?_))
   | exact ih0 _ _ _ _ _ _
   | exact ih1 _ _ _ _ _ _ _ _ _ _
   | exact impl_Machine_reached.mono _ _ _ _ _
   | exact impl_isMachine.mono _ _ _ _
   | exact slices_Contains_int_int.mono _ _ _
   | exact LeO.none _
   | refine LeO.ite ?_ ?_
   | refine LeO.bind ?_ (fun _ => ?_)
theorem impl_NoCircle.mono : ∀ a0 a1 a2 k,LeO (impl_NoCircle.f k a0 a1 a2) (impl_NoCircle.f (k + 1) a0 a1 a2):=by
 intro a0 a1 a2 k
 obtain ⟨ih0,ih1⟩:=impl_NoCircle.mono_l k
 unfold impl_NoCircle.f
 repeat' first
   | (with_reducible exact ih0 _ _ _ _ _ _)
   | (with_reducible exact ih1 _ _ _ _ _ _ _ _ _ _)
   | (with_reducible exact impl_Machine_reached.mono _ _ _ _ _)
   | (with_reducible exact impl_isMachine.mono _ _ _ _)
   | (with_reducible exact slices_Contains_int_int.mono _ _ _)
   | (with_reducible exact LeO.refl _)
   | (with_reducible exact LeO.none _)
   | (with_reducible refine LeO.ite ?_ ?_)
   | (with_reducible refine LeO.bind ?_ (fun _ => ?_))
   | exact ih0 _ _ _ _ _ _
   | exact ih1 _ _ _ _ _ _ _ _ _ _
   | exact impl_Machine_reached.mono _ _ _ _ _
   | exact impl_isMachine.mono _ _ _ _
   | exact slices_Contains_int_int.mono _ _ _
   | exact LeO.none _
   | refine LeO.ite ?_ ?_
   | refine LeO.bind ?_ (fun _ => ?_)
set_option maxHeartbeats 8000000 in
set_option maxRecDepth 100000 in
theorem impl_NoCircle.calls (k : Nat) (A0_0 : Option Addr) (c0_0 : Nat) (l0_0 : List Int) (A0_1 : Option Addr) (c0_1 : Nat) (l0_1 : List Int) (A0_2 : Option Addr) (c0_2 : Nat) (l0_2 : List Int) (r : Bool) (w : World) (hr0_0 : Kd.C (Kd.int .i64) w A0_0 l0_0.length l0_0) (hc0_0 : l0_0.length ≤ c0_0) (hr0_1 : Kd.C (Kd.int .i64) w A0_1 l0_1.length l0_1) (hc0_1 : l0_1.length ≤ c0_1) (hr0_2 : Kd.C (Kd.int .i64) w A0_2 l0_2.length l0_2) (hc0_2 : l0_2.length ≤ c0_2) (h : impl_NoCircle.f k l0_0 l0_1 l0_2 = some r) :
  Calls Tryd.prog 11 #[.agg #[.slice A0_0 l0_0.length c0_0,.slice A0_1 l0_1.length c0_1,.slice A0_2 l0_2.length c0_2]] w fun e w' => e = .returned (.bool r) ∧ Below w.heap.size w w':=by
 have hu27:=Tryd.underlying27
 have HR0_0:=Aside0.mk hr0_0
 have HC0_0:=Aside0.mk hc0_0;clear hr0_0 hc0_0
 have HR0_1:=Aside0.mk hr0_1
 have HC0_1:=Aside0.mk hc0_1;clear hr0_1 hc0_1
 have HR0_2:=Aside0.mk hr0_2
 have HC0_2:=Aside0.mk hc0_2;clear hr0_2 hc0_2;have HB:=Aside0.mk (Below.refl w.heap.size w)
 have H : ((impl_isMachine.f k l0_0 l0_1 l0_2).bind fun t448 => (if t448 = true then ((impl_Machine_reached.f k l0_0 l0_1 l0_2 0).bind fun t449 => (impl_NoCircle.l0 k t449 (t449.length : Int) 0 l0_0 l0_1 l0_2)) else (some false))) = some r:=h;clear h
 replace H:=Option.bind_eq_some_iff.mp H
 obtain ⟨t448,A20,H⟩:=H
 replace H : (if t448 = true then ((impl_Machine_reached.f k l0_0 l0_1 l0_2 0).bind fun t449 => (impl_NoCircle.l0 k t449 (t449.length : Int) 0 l0_0 l0_1 l0_2)) else (some false)) = some r:=H
 have A2:=Aside0.mk A20;clear A20
 by_cases c3 : t448 = true
 ·
  subst c3
  have H1 : ((impl_Machine_reached.f k l0_0 l0_1 l0_2 0).bind fun t449 => (impl_NoCircle.l0 k t449 (t449.length : Int) 0 l0_0 l0_1 l0_2)) = some r:=by rw [if_pos rfl] at H;exact H
  clear H;have H:=H1;clear H1
  replace H:=Option.bind_eq_some_iff.mp H
  obtain ⟨t449,A40,H⟩:=H
  replace H : (impl_NoCircle.l0 k t449 (t449.length : Int) 0 l0_0 l0_1 l0_2) = some r:=H
  have A4:=Aside0.mk A40;clear A40
  have H':=Aside0.mk H;clear H
  go_enter Tryd.func11,Tryd.ntmps11
  go_wp2_with (first|((with_reducible refine gate_dst (N:=1) rfl ?_);refine box_event ?hg (N:=1) ?hd (cs:=#[.slice A0_0 l0_0.length c0_0,.slice A0_1 l0_1.length c0_1,.slice A0_2 l0_2.length c0_2]) (t:=27) ?hr ?_;(case hd => rfl);(case hg => rfl);(case hr => first|(go_simp;done)|(go_simp;rfl));intro gb447 hg w5 hbox hb;have n0_:=Aside0.mk (below_step (belU HB.out) hb);have n1_:=Aside0.mk (hbox);have n2_:=Aside0.mk ((by rw [hg];exact (below_size (belU HB.out)) : w.heap.size ≤ gb447));have n3_:=Aside0.mk ((by rw [hg];exact (below_size (belU HB.out)) : w.heap.size ≤ gb447));clear HB;have HB:=n0_;have BK447:=n1_;have GW447:=n2_;have GE447:=n3_;clear n0_ n1_ n2_ n3_ hb hbox hg;have hcz6_0 : w5.cell? ⟨gb447,0,none⟩ = some (.slice A0_0 l0_0.length c0_0):=(blk_cell BK447.out 0).trans rfl;have hcz6_1 : w5.cell? ⟨gb447,1,none⟩ = some (.slice A0_1 l0_1.length c0_1):=(blk_cell BK447.out 1).trans rfl;have hcz6_2 : w5.cell? ⟨gb447,2,none⟩ = some (.slice A0_2 l0_2.length c0_2):=(blk_cell BK447.out 2).trans rfl;have hfz6_0:=blk_frozen BK447.out 0;have hfz6_1:=blk_frozen BK447.out 1;have hfz6_2:=blk_frozen BK447.out 2)|((with_reducible refine gate_callee (f:=21) rfl ?_);refine goesL_ (some 8) rfl rfl Tryd.func21 (by kernel_rfl) rfl #[.agg #[.slice A0_0 l0_0.length c0_0,.slice A0_1 l0_1.length c0_1,.slice A0_2 l0_2.length c0_2]] rfl (by (try simp only [List.map_toArray,List.map_cons,List.map_nil]);first|done|rfl|(simp only [List.length_drop,List.length_take];rfl)) ?_;(with_reducible refine (impl_isMachine.calls k _ _ l0_0 _ _ l0_1 _ _ l0_2 true _ ?side1 ?side2 ?side3 ?side4 ?side5 ?side6 A2.out).mono ?_);(case side1 => exact cU (Kd.C_below HR0_0.out HB.out));(case side2 => exact HC0_0.out);(case side3 => exact cU (Kd.C_below HR0_1.out HB.out));(case side4 => exact HC0_1.out);(case side5 => exact cU (Kd.C_below HR0_2.out HB.out));(case side6 => exact HC0_2.out);rintro e w7 ⟨rfl,hb⟩;refine ⟨_,rfl,?_⟩;have n0_:=Aside0.mk (blk_below (g:=gb447) (o:=.cells #[.slice A0_0 l0_0.length c0_0,.slice A0_1 l0_1.length c0_1,.slice A0_2 l0_2.length c0_2] 27 (0,0)) (blkU BK447.out) hb);have n1_:=Aside0.mk (below_step (by repeat (first|(with_reducible first|exact HB.out|apply below_alloc|apply pw_below_drewN|apply below_drew1|refine below_set ?_ GE447.out)|exact HB.out)) hb);clear BK447 HB;have BK447:=n0_;have HB:=n1_;clear n0_ n1_;(try clear hb);(try clear hb2);(try clear hk);(try clear hi);have hcz8_0 : w7.cell? ⟨gb447,0,none⟩ = some (.slice A0_0 l0_0.length c0_0):=(blk_cell BK447.out 0).trans rfl;have hcz8_1 : w7.cell? ⟨gb447,1,none⟩ = some (.slice A0_1 l0_1.length c0_1):=(blk_cell BK447.out 1).trans rfl;have hcz8_2 : w7.cell? ⟨gb447,2,none⟩ = some (.slice A0_2 l0_2.length c0_2):=(blk_cell BK447.out 2).trans rfl;have hfz8_0:=blk_frozen BK447.out 0;have hfz8_1:=blk_frozen BK447.out 1;have hfz8_2:=blk_frozen BK447.out 2)|((with_reducible refine gate_callee (f:=27) rfl ?_);refine goesL_ (some 11) rfl rfl Tryd.func27 (by kernel_rfl) rfl #[.agg #[.slice A0_0 l0_0.length c0_0,.slice A0_1 l0_1.length c0_1,.slice A0_2 l0_2.length c0_2],.int .i64 0] rfl (by (try simp only [List.map_toArray,List.map_cons,List.map_nil]);first|done|rfl|(simp only [List.length_drop,List.length_take];rfl)) ?_;(with_reducible refine (impl_Machine_reached.calls k _ _ l0_0 _ _ l0_1 _ _ l0_2 0 t449 _ ?side1 ?side2 ?side3 ?side4 ?side5 ?side6 A4.out).mono ?_);(case side1 => exact cU (Kd.C_below HR0_0.out HB.out));(case side2 => exact HC0_0.out);(case side3 => exact cU (Kd.C_below HR0_1.out HB.out));(case side4 => exact HC0_1.out);(case side5 => exact cU (Kd.C_below HR0_2.out HB.out));(case side6 => exact HC0_2.out);rintro e w9 ⟨v450,rfl,ho0,hb⟩;refine ⟨_,rfl,?_⟩;have n0_:=Aside0.mk (Kd.R_lower ho0 (below_size (by repeat (first|(with_reducible first|exact HB.out|apply below_alloc|apply pw_below_drewN|apply below_drew1|refine below_set ?_ GE447.out)|exact HB.out))));have n1_:=Aside0.mk (blk_below (g:=gb447) (o:=.cells #[.slice A0_0 l0_0.length c0_0,.slice A0_1 l0_1.length c0_1,.slice A0_2 l0_2.length c0_2] 27 (0,0)) (blkU BK447.out) hb);have n2_:=Aside0.mk (below_step (by repeat (first|(with_reducible first|exact HB.out|apply below_alloc|apply pw_below_drewN|apply below_drew1|refine below_set ?_ GE447.out)|exact HB.out)) hb);clear BK447 HB;have HO451:=n0_;have BK447:=n1_;have HB:=n2_;clear n0_ n1_ n2_;(try clear hb);(try clear hb2);(try clear hk);(try clear hi);(try clear ho0);obtain ⟨Ao10,co10,eo10⟩:=Kd.R_slice HO451.out;subst eo10))
  go_loopg [13] k (fun kq v13 w' => ∃ (x13_1 : Int),v13 = .int .i64 x13_1 ∧ Aside0 (impl_NoCircle.l0 kq t449 (t449.length : Int) x13_1 l0_0 l0_1 l0_2 = some r) ∧ Aside0 (kq ≤ k) ∧ Aside0 (Kd.R (Kd.int .i64) 3 w' w.heap.size (fun _ => True) (.slice Ao10 t449.length co10) t449) ∧ Aside0 (w'.heap[gb447]? = some (.cells #[(.slice A0_0 l0_0.length c0_0),(.slice A0_1 l0_1.length c0_1),(.slice A0_2 l0_2.length c0_2)] 27 (0,0))) ∧ Aside0 (Below w.heap.size w w'))
  case atStart => exact ⟨(0),(by first|rfl|(simp;done)|(simp [*];done)),H',⟨Nat.le_refl _⟩,⟨rU HO451.out⟩,⟨blkU BK447.out⟩,⟨by repeat (first|(with_reducible first|exact HB.out|apply below_alloc|apply pw_below_drewN|apply below_drew1|refine below_set ?_ GE447.out)|exact HB.out)⟩⟩
  case round =>
   clear H'
   try clear c1
   try clear c2
   try clear p2
   try clear c3
   try clear hcz6_0
   try clear hcz6_1
   try clear hcz6_2
   try clear hcz8_0
   try clear hcz8_1
   try clear hcz8_2
   try clear hfz6_0
   try clear hfz6_1
   try clear hfz6_2
   try clear hfz8_0
   try clear hfz8_1
   try clear hfz8_2
   obtain ⟨x13_1,rfl,HA,HK1,HO_11,BK447,HB⟩:=hrel
   cases gk with
   | zero => exact absurd HA.out (by simp [impl_NoCircle.l0])
   | succ k1 =>
    have H:=HA.out;clear HA
    simp only [impl_NoCircle.l0] at H
    by_cases c11 : x13_1 < (t449.length : Int)
    ·
     rw [if_pos c11] at H
     have c11b0 : decide (x13_1 < (t449.length : Int)) = true:=decide_eq_true c11;clear c11
     by_cases c12 : 0 ≤ x13_1
     ·
      rw [if_pos c12] at H
      have c12b0 : decide (0 ≤ x13_1) = true:=decide_eq_true c12;clear c12
      by_cases c13 : x13_1 < (t449.length : Int)
      ·
       rw [if_pos c13] at H
       have c13b0 : decide (x13_1 < (t449.length : Int)) = true:=decide_eq_true c13;clear c13
       replace H:=Option.bind_eq_some_iff.mp H
       obtain ⟨t453,A140,H⟩:=H
       replace H : (impl_NoCircle.l1 k1 (rd t449 x13_1) t449 (t449.length : Int) x13_1 t453 (t453.length : Int) 0 l0_0 l0_1 l0_2) = some r:=H
       have A14:=Aside0.mk A140;clear A140
       have H':=Aside0.mk H;clear H
       have p452 : 0 ≤ (x13_1 : Int):=of_decide_eq_true (by first|(with_reducible assumption)|assumption)
       have q452 : x13_1 < (t449.length : Int):=of_decide_eq_true (by first|(with_reducible assumption)|assumption)
       obtain ⟨ad452,e452,hx452_0⟩:=Kd.at_int (Kd.R_reads' HO_11.out).2.2 x13_1 p452 q452
       cases e452
       replace p452:=eq_true p452
       replace q452:=eq_true q452
       have hcz15_0 : wr.cell? ⟨gb447,0,none⟩ = some (.slice A0_0 l0_0.length c0_0):=(blk_cell BK447.out 0).trans rfl
       have hcz15_1 : wr.cell? ⟨gb447,1,none⟩ = some (.slice A0_1 l0_1.length c0_1):=(blk_cell BK447.out 1).trans rfl
       have hcz15_2 : wr.cell? ⟨gb447,2,none⟩ = some (.slice A0_2 l0_2.length c0_2):=(blk_cell BK447.out 2).trans rfl
       have hfz15_0:=blk_frozen BK447.out 0
       have hfz15_1:=blk_frozen BK447.out 1
       have hfz15_2:=blk_frozen BK447.out 2
       go_wp2_with (first|((with_reducible refine gate_callee (f:=27) rfl ?_);refine goesL_ (some 19) rfl rfl Tryd.func27 (by kernel_rfl) rfl #[.agg #[.slice A0_0 l0_0.length c0_0,.slice A0_1 l0_1.length c0_1,.slice A0_2 l0_2.length c0_2],.int .i64 (rd t449 x13_1)] rfl (by (try simp only [List.map_toArray,List.map_cons,List.map_nil]);first|done|rfl|(simp only [List.length_drop,List.length_take];rfl)) ?_;(with_reducible refine (impl_Machine_reached.calls k1 _ _ l0_0 _ _ l0_1 _ _ l0_2 (rd t449 x13_1) t453 _ ?side1 ?side2 ?side3 ?side4 ?side5 ?side6 A14.out).mono ?_);(case side1 => exact cU (Kd.C_below HR0_0.out HB.out));(case side2 => exact HC0_0.out);(case side3 => exact cU (Kd.C_below HR0_1.out HB.out));(case side4 => exact HC0_1.out);(case side5 => exact cU (Kd.C_below HR0_2.out HB.out));(case side6 => exact HC0_2.out);rintro e w16 ⟨v454,rfl,ho0,hb⟩;refine ⟨_,rfl,?_⟩;have n0_:=Aside0.mk (Kd.R_elder' (rU HO_11.out) (Kd.R_base ho0) hb);have n1_:=Aside0.mk (Kd.R_lower (Kd.R_new' ho0 (Kd.R_lt (rU HO_11.out))) (below_size (by repeat (first|(with_reducible first|exact HB.out|apply below_alloc|apply pw_below_drewN|apply below_drew1|refine below_set ?_ GE447.out)|exact HB.out))));have n2_:=Aside0.mk (blk_below (g:=gb447) (o:=.cells #[.slice A0_0 l0_0.length c0_0,.slice A0_1 l0_1.length c0_1,.slice A0_2 l0_2.length c0_2] 27 (0,0)) (blkU BK447.out) hb);have n3_:=Aside0.mk (below_step (by repeat (first|(with_reducible first|exact HB.out|apply below_alloc|apply pw_below_drewN|apply below_drew1|refine below_set ?_ GE447.out)|exact HB.out)) hb);clear HO_11 BK447 HB;have HO_11:=n0_;have HO455:=n1_;have BK447:=n2_;have HB:=n3_;clear n0_ n1_ n2_ n3_;(try clear hb);(try clear hb2);(try clear hk);(try clear hi);(try clear ho0);obtain ⟨Ao17,co17,eo17⟩:=Kd.R_slice HO455.out;subst eo17))
       go_loopg [21] k1 (fun kq v21 w' => ∃ (x21_2 : Int),v21 = .int .i64 x21_2 ∧ Aside0 (impl_NoCircle.l1 kq (rd t449 x13_1) t449 (t449.length : Int) x13_1 t453 (t453.length : Int) x21_2 l0_0 l0_1 l0_2 = some r) ∧ Aside0 (kq ≤ k1) ∧ Aside0 (Kd.R (Kd.int .i64) 3 w' w.heap.size (fun k_ => some k_ ≠ ((.slice Ao17 t453.length co17) : Value).ownBlock) (.slice (some ad452) t449.length co10) t449) ∧ Aside0 (Kd.R (Kd.int .i64) 3 w' w.heap.size (fun k_ => some k_ ≠ ((.slice (some ad452) t449.length co10) : Value).ownBlock) (.slice Ao17 t453.length co17) t453) ∧ Aside0 (w'.heap[gb447]? = some (.cells #[(.slice A0_0 l0_0.length c0_0),(.slice A0_1 l0_1.length c0_1),(.slice A0_2 l0_2.length c0_2)] 27 (0,0))) ∧ Aside0 (Below w.heap.size w w'))
       case atStart => exact ⟨(0),(by first|rfl|(simp;done)|(simp [*];done)),H',⟨Nat.le_refl _⟩,⟨by (with_reducible repeat (first|apply Kd.R_alloc|apply Kd.R_drewN|apply Kd.R_drew));exact Kd.R_mono HO_11.out (fun _ hk => hk.2)⟩,⟨by (with_reducible repeat (first|apply Kd.R_alloc|apply Kd.R_drewN|apply Kd.R_drew));exact Kd.R_mono HO455.out (fun _ hk => hk.2)⟩,⟨blkU BK447.out⟩,⟨by repeat (first|(with_reducible first|exact HB.out|apply below_alloc|apply pw_below_drewN|apply below_drew1|refine below_set ?_ GE447.out)|exact HB.out)⟩⟩
       case round =>
        clear H'
        try clear c1
        try clear c2
        try clear p2
        try clear c3
        try clear p4
        try clear q4
        try clear hx4
        try clear c11
        try clear c11b0
        try clear c12
        try clear c12b0
        try clear c13
        try clear c13b0
        try clear hcz15_0
        try clear hcz15_1
        try clear hcz15_2
        try clear hcz6_0
        try clear hcz6_1
        try clear hcz6_2
        try clear hcz8_0
        try clear hcz8_1
        try clear hcz8_2
        try clear hfz15_0
        try clear hfz15_1
        try clear hfz15_2
        try clear hfz6_0
        try clear hfz6_1
        try clear hfz6_2
        try clear hfz8_0
        try clear hfz8_1
        try clear hfz8_2
        try clear hx452_0
        try clear p2
        try clear p452
        try clear q452
        obtain ⟨x21_2,rfl,HA,HK2,HO_11,HO_19,BK447,HB⟩:=hrel
        cases gk with
        | zero => exact absurd HA.out (by simp [impl_NoCircle.l1])
        | succ k2 =>
         have H:=HA.out;clear HA
         simp only [impl_NoCircle.l1] at H
         by_cases c18 : x21_2 < (t453.length : Int)
         ·
          rw [if_pos c18] at H
          have c18b0 : decide (x21_2 < (t453.length : Int)) = true:=decide_eq_true c18;clear c18
          by_cases c19 : 0 ≤ x21_2
          ·
           rw [if_pos c19] at H
           have c19b0 : decide (0 ≤ x21_2) = true:=decide_eq_true c19;clear c19
           by_cases c20 : x21_2 < (t453.length : Int)
           ·
            rw [if_pos c20] at H
            have c20b0 : decide (x21_2 < (t453.length : Int)) = true:=decide_eq_true c20;clear c20
            by_cases c21 : (rd t453 x21_2) = (rd t449 x13_1)
            ·
             rw [if_pos c21] at H
             have c21b0 : ((rd t453 x21_2) == (rd t449 x13_1)) = true:=beq_iff_eq.mpr c21
             have c21b1 : ((rd t453 x21_2) != (rd t449 x13_1)) = false:=bne_eq_false_iff_eq.mpr c21;clear c21
             have H':=Aside0.mk H;clear H
             have p456 : 0 ≤ (x21_2 : Int):=of_decide_eq_true (by first|(with_reducible assumption)|assumption)
             have q456 : x21_2 < (t453.length : Int):=of_decide_eq_true (by first|(with_reducible assumption)|assumption)
             obtain ⟨ad456,e456,hx456_0⟩:=Kd.at_int (Kd.R_reads' HO_19.out).2.2 x21_2 p456 q456
             cases e456
             replace p456:=eq_true p456
             replace q456:=eq_true q456
             go_wp2
             go_roundg k2
             case measure => have:=HK1.out;have:=HK2.out;omega
             case rel => exact ⟨(wrap64 (x21_2 + 1)),(by first|rfl|(simp;done)|(simp [*];done)),H',⟨by have:=HK1.out;have:=HK2.out;omega⟩,⟨rU HO_11.out⟩,⟨rU HO_19.out⟩,⟨blkU BK447.out⟩,⟨by repeat (first|(with_reducible first|exact HB.out|apply below_alloc|apply pw_below_drewN|apply below_drew1|refine below_set ?_ GE447.out)|exact HB.out)⟩⟩
            ·
             rw [if_neg c21] at H
             have c21b0 : ((rd t453 x21_2) == (rd t449 x13_1)) = false:=beq_eq_false_iff_ne.mpr c21
             have c21b1 : ((rd t453 x21_2) != (rd t449 x13_1)) = true:=bne_iff_ne.mpr c21
             replace H:=Option.bind_eq_some_iff.mp H
             obtain ⟨t457,A220,H⟩:=H
             replace H : ((slices_Contains_int_int.f k2 t457 (rd t449 x13_1)).bind fun t460 => (if t460 = true then (some false) else (impl_NoCircle.l1 k2 (rd t449 x13_1) t449 (t449.length : Int) x13_1 t453 (t453.length : Int) (wrap64 (x21_2 + 1)) l0_0 l0_1 l0_2))) = some r:=H
             have A22:=Aside0.mk A220;clear A220
             replace H:=Option.bind_eq_some_iff.mp H
             obtain ⟨t460,A230,H⟩:=H
             replace H : (if t460 = true then (some false) else (impl_NoCircle.l1 k2 (rd t449 x13_1) t449 (t449.length : Int) x13_1 t453 (t453.length : Int) (wrap64 (x21_2 + 1)) l0_0 l0_1 l0_2)) = some r:=H
             have A23:=Aside0.mk A230;clear A230
             by_cases c24 : t460 = true
             ·
              subst c24
              have H1 : (some false) = some r:=by rw [if_pos rfl] at H;exact H
              clear H;have H:=H1;clear H1
              obtain rfl:=Option.some.inj H
              have p456 : 0 ≤ (x21_2 : Int):=of_decide_eq_true (by first|(with_reducible assumption)|assumption)
              have q456 : x21_2 < (t453.length : Int):=of_decide_eq_true (by first|(with_reducible assumption)|assumption)
              obtain ⟨ad456,e456,hx456_0⟩:=Kd.at_int (Kd.R_reads' HO_19.out).2.2 x21_2 p456 q456
              cases e456
              replace p456:=eq_true p456
              replace q456:=eq_true q456
              have hcz25_0 : wr.cell? ⟨gb447,0,none⟩ = some (.slice A0_0 l0_0.length c0_0):=(blk_cell BK447.out 0).trans rfl
              have hcz25_1 : wr.cell? ⟨gb447,1,none⟩ = some (.slice A0_1 l0_1.length c0_1):=(blk_cell BK447.out 1).trans rfl
              have hcz25_2 : wr.cell? ⟨gb447,2,none⟩ = some (.slice A0_2 l0_2.length c0_2):=(blk_cell BK447.out 2).trans rfl
              have hfz25_0:=blk_frozen BK447.out 0
              have hfz25_1:=blk_frozen BK447.out 1
              have hfz25_2:=blk_frozen BK447.out 2
              go_wp2_with (first|(go_at_call 27;(with_reducible refine (impl_Machine_reached.calls k2 _ _ l0_0 _ _ l0_1 _ _ l0_2 (rd t453 x21_2) t457 _ ?side1 ?side2 ?side3 ?side4 ?side5 ?side6 A22.out).mono ?_);(case side1 => exact cU (Kd.C_below HR0_0.out HB.out));(case side2 => exact HC0_0.out);(case side3 => exact cU (Kd.C_below HR0_1.out HB.out));(case side4 => exact HC0_1.out);(case side5 => exact cU (Kd.C_below HR0_2.out HB.out));(case side6 => exact HC0_2.out);rintro e w26 ⟨v458,rfl,ho0,hb⟩;have n0_:=Aside0.mk (Kd.R_elder' (rU HO_11.out) (Kd.R_base ho0) hb);have n1_:=Aside0.mk (Kd.R_elder' (rU HO_19.out) (Kd.R_base ho0) hb);have n2_:=Aside0.mk (Kd.R_lower (Kd.R_new' (Kd.R_new' ho0 (Kd.R_lt (rU HO_11.out))) (Kd.R_lt (rU HO_19.out))) (below_size (by repeat (first|(with_reducible first|exact HB.out|apply below_alloc|apply pw_below_drewN|apply below_drew1|refine below_set ?_ GE447.out)|exact HB.out))));have n3_:=Aside0.mk (blk_below (g:=gb447) (o:=.cells #[.slice A0_0 l0_0.length c0_0,.slice A0_1 l0_1.length c0_1,.slice A0_2 l0_2.length c0_2] 27 (0,0)) (blkU BK447.out) hb);have n4_:=Aside0.mk (below_step (by repeat (first|(with_reducible first|exact HB.out|apply below_alloc|apply pw_below_drewN|apply below_drew1|refine below_set ?_ GE447.out)|exact HB.out)) hb);clear HO_11 HO_19 BK447 HB;have HO_11:=n0_;have HO_19:=n1_;have HO459:=n2_;have BK447:=n3_;have HB:=n4_;clear n0_ n1_ n2_ n3_ n4_;(try clear hb);(try clear hb2);(try clear hk);(try clear hi);(try clear ho0);obtain ⟨Ao27,co27,eo27⟩:=Kd.R_slice HO459.out;subst eo27)|(go_at_call 28;(with_reducible refine (slices_Contains_int_int.calls k2 _ _ t457 (rd t449 x13_1) true _ ?side1 ?side2 A23.out).mono ?_);(case side1 => exact cU (Kd.R_reads' HO459.out).2.2);(case side2 => exact (Kd.R_reads' HO459.out).2.1);rintro e w' ⟨rfl,⟨nd,rfl⟩⟩))
              go_ret
              exact ⟨by first|rfl|(simp [errW_none,errW_some] <;> rfl)|(simp [*,errW_none,errW_some] <;> rfl),by repeat (first|(with_reducible first|exact HB.out|apply below_alloc|apply pw_below_drewN|apply below_drew1|refine below_set ?_ GE447.out)|exact HB.out)⟩
             ·
              replace c24:=Bool.eq_false_iff.mpr c24;subst c24
              have H1 : (impl_NoCircle.l1 k2 (rd t449 x13_1) t449 (t449.length : Int) x13_1 t453 (t453.length : Int) (wrap64 (x21_2 + 1)) l0_0 l0_1 l0_2) = some r:=by rw [if_neg (show ¬ (false = true) by decide)] at H;exact H
              clear H;have H:=H1;clear H1
              have H':=Aside0.mk H;clear H
              have p456 : 0 ≤ (x21_2 : Int):=of_decide_eq_true (by first|(with_reducible assumption)|assumption)
              have q456 : x21_2 < (t453.length : Int):=of_decide_eq_true (by first|(with_reducible assumption)|assumption)
              obtain ⟨ad456,e456,hx456_0⟩:=Kd.at_int (Kd.R_reads' HO_19.out).2.2 x21_2 p456 q456
              cases e456
              replace p456:=eq_true p456
              replace q456:=eq_true q456
              have hcz28_0 : wr.cell? ⟨gb447,0,none⟩ = some (.slice A0_0 l0_0.length c0_0):=(blk_cell BK447.out 0).trans rfl
              have hcz28_1 : wr.cell? ⟨gb447,1,none⟩ = some (.slice A0_1 l0_1.length c0_1):=(blk_cell BK447.out 1).trans rfl
              have hcz28_2 : wr.cell? ⟨gb447,2,none⟩ = some (.slice A0_2 l0_2.length c0_2):=(blk_cell BK447.out 2).trans rfl
              have hfz28_0:=blk_frozen BK447.out 0
              have hfz28_1:=blk_frozen BK447.out 1
              have hfz28_2:=blk_frozen BK447.out 2
              go_wp2_with (first|(go_at_call 27;(with_reducible refine (impl_Machine_reached.calls k2 _ _ l0_0 _ _ l0_1 _ _ l0_2 (rd t453 x21_2) t457 _ ?side1 ?side2 ?side3 ?side4 ?side5 ?side6 A22.out).mono ?_);(case side1 => exact cU (Kd.C_below HR0_0.out HB.out));(case side2 => exact HC0_0.out);(case side3 => exact cU (Kd.C_below HR0_1.out HB.out));(case side4 => exact HC0_1.out);(case side5 => exact cU (Kd.C_below HR0_2.out HB.out));(case side6 => exact HC0_2.out);rintro e w29 ⟨v458,rfl,ho0,hb⟩;have n0_:=Aside0.mk (Kd.R_elder' (rU HO_11.out) (Kd.R_base ho0) hb);have n1_:=Aside0.mk (Kd.R_elder' (rU HO_19.out) (Kd.R_base ho0) hb);have n2_:=Aside0.mk (Kd.R_lower (Kd.R_new' (Kd.R_new' ho0 (Kd.R_lt (rU HO_11.out))) (Kd.R_lt (rU HO_19.out))) (below_size (by repeat (first|(with_reducible first|exact HB.out|apply below_alloc|apply pw_below_drewN|apply below_drew1|refine below_set ?_ GE447.out)|exact HB.out))));have n3_:=Aside0.mk (blk_below (g:=gb447) (o:=.cells #[.slice A0_0 l0_0.length c0_0,.slice A0_1 l0_1.length c0_1,.slice A0_2 l0_2.length c0_2] 27 (0,0)) (blkU BK447.out) hb);have n4_:=Aside0.mk (below_step (by repeat (first|(with_reducible first|exact HB.out|apply below_alloc|apply pw_below_drewN|apply below_drew1|refine below_set ?_ GE447.out)|exact HB.out)) hb);clear HO_11 HO_19 BK447 HB;have HO_11:=n0_;have HO_19:=n1_;have HO459:=n2_;have BK447:=n3_;have HB:=n4_;clear n0_ n1_ n2_ n3_ n4_;(try clear hb);(try clear hb2);(try clear hk);(try clear hi);(try clear ho0);obtain ⟨Ao30,co30,eo30⟩:=Kd.R_slice HO459.out;subst eo30)|(go_at_call 28;(with_reducible refine (slices_Contains_int_int.calls k2 _ _ t457 (rd t449 x13_1) false _ ?side1 ?side2 A23.out).mono ?_);(case side1 => exact cU (Kd.R_reads' HO459.out).2.2);(case side2 => exact (Kd.R_reads' HO459.out).2.1);rintro e w' ⟨rfl,⟨nd,rfl⟩⟩))
              go_roundg k2
              case measure => have:=HK1.out;have:=HK2.out;omega
              case rel => exact ⟨(wrap64 (x21_2 + 1)),(by first|rfl|(simp;done)|(simp [*];done)),H',⟨by have:=HK1.out;have:=HK2.out;omega⟩,⟨by (with_reducible repeat (first|apply Kd.R_alloc|apply Kd.R_drewN|apply Kd.R_drew));exact Kd.R_mono HO_11.out (fun _ hk => hk.1)⟩,⟨by (with_reducible repeat (first|apply Kd.R_alloc|apply Kd.R_drewN|apply Kd.R_drew));exact Kd.R_mono HO_19.out (fun _ hk => hk.1)⟩,⟨blkU BK447.out⟩,⟨by repeat (first|(with_reducible first|exact HB.out|apply below_alloc|apply pw_below_drewN|apply below_drew1|refine below_set ?_ GE447.out)|exact HB.out)⟩⟩
           ·
            rw [if_neg c20] at H
            exact absurd H (by simp)
          ·
           rw [if_neg c19] at H
           exact absurd H (by simp)
         ·
          rw [if_neg c18] at H
          have c18b0 : decide (x21_2 < (t453.length : Int)) = false:=decide_eq_false c18;clear c18
          have H':=Aside0.mk H;clear H
          go_wp2
          go_roundg k2
          case measure => have:=HK1.out;have:=HK2.out;omega
          case rel => exact ⟨(wrap64 (x13_1 + 1)),(by first|rfl|(simp;done)|(simp [*];done)),H',⟨by have:=HK1.out;have:=HK2.out;omega⟩,⟨by (with_reducible repeat (first|apply Kd.R_alloc|apply Kd.R_drewN|apply Kd.R_drew));exact Kd.R_mono HO_11.out (fun _ hk => trivial)⟩,⟨blkU BK447.out⟩,⟨by repeat (first|(with_reducible first|exact HB.out|apply below_alloc|apply pw_below_drewN|apply below_drew1|refine below_set ?_ GE447.out)|exact HB.out)⟩⟩
      ·
       rw [if_neg c13] at H
       exact absurd H (by simp)
     ·
      rw [if_neg c12] at H
      exact absurd H (by simp)
    ·
     rw [if_neg c11] at H
     have c11b0 : decide (x13_1 < (t449.length : Int)) = false:=decide_eq_false c11;clear c11
     obtain rfl:=Option.some.inj H
     go_wp2
     go_ret
     exact ⟨by first|rfl|(simp [errW_none,errW_some] <;> rfl)|(simp [*,errW_none,errW_some] <;> rfl),by repeat (first|(with_reducible first|exact HB.out|apply below_alloc|apply pw_below_drewN|apply below_drew1|refine below_set ?_ GE447.out)|exact HB.out)⟩
 ·
  replace c3:=Bool.eq_false_iff.mpr c3;subst c3
  have H1 : (some false) = some r:=by rw [if_neg (show ¬ (false = true) by decide)] at H;exact H
  clear H;have H:=H1;clear H1
  obtain rfl:=Option.some.inj H
  go_enter Tryd.func11,Tryd.ntmps11
  go_wp2_with (first|((with_reducible refine gate_dst (N:=1) rfl ?_);refine box_event ?hg (N:=1) ?hd (cs:=#[.slice A0_0 l0_0.length c0_0,.slice A0_1 l0_1.length c0_1,.slice A0_2 l0_2.length c0_2]) (t:=27) ?hr ?_;(case hd => rfl);(case hg => rfl);(case hr => first|(go_simp;done)|(go_simp;rfl));intro gb447 hg w31 hbox hb;have n0_:=Aside0.mk (below_step (belU HB.out) hb);have n1_:=Aside0.mk (hbox);have n2_:=Aside0.mk ((by rw [hg];exact (below_size (belU HB.out)) : w.heap.size ≤ gb447));have n3_:=Aside0.mk ((by rw [hg];exact (below_size (belU HB.out)) : w.heap.size ≤ gb447));clear HB;have HB:=n0_;have BK447:=n1_;have GW447:=n2_;have GE447:=n3_;clear n0_ n1_ n2_ n3_ hb hbox hg;have hcz32_0 : w31.cell? ⟨gb447,0,none⟩ = some (.slice A0_0 l0_0.length c0_0):=(blk_cell BK447.out 0).trans rfl;have hcz32_1 : w31.cell? ⟨gb447,1,none⟩ = some (.slice A0_1 l0_1.length c0_1):=(blk_cell BK447.out 1).trans rfl;have hcz32_2 : w31.cell? ⟨gb447,2,none⟩ = some (.slice A0_2 l0_2.length c0_2):=(blk_cell BK447.out 2).trans rfl;have hfz32_0:=blk_frozen BK447.out 0;have hfz32_1:=blk_frozen BK447.out 1;have hfz32_2:=blk_frozen BK447.out 2)|((with_reducible refine gate_callee (f:=21) rfl ?_);refine goesL_ (some 8) rfl rfl Tryd.func21 (by kernel_rfl) rfl #[.agg #[.slice A0_0 l0_0.length c0_0,.slice A0_1 l0_1.length c0_1,.slice A0_2 l0_2.length c0_2]] rfl (by (try simp only [List.map_toArray,List.map_cons,List.map_nil]);first|done|rfl|(simp only [List.length_drop,List.length_take];rfl)) ?_;(with_reducible refine (impl_isMachine.calls k _ _ l0_0 _ _ l0_1 _ _ l0_2 false _ ?side1 ?side2 ?side3 ?side4 ?side5 ?side6 A2.out).mono ?_);(case side1 => exact cU (Kd.C_below HR0_0.out HB.out));(case side2 => exact HC0_0.out);(case side3 => exact cU (Kd.C_below HR0_1.out HB.out));(case side4 => exact HC0_1.out);(case side5 => exact cU (Kd.C_below HR0_2.out HB.out));(case side6 => exact HC0_2.out);rintro e w33 ⟨rfl,hb⟩;refine ⟨_,rfl,?_⟩;have n0_:=Aside0.mk (blk_below (g:=gb447) (o:=.cells #[.slice A0_0 l0_0.length c0_0,.slice A0_1 l0_1.length c0_1,.slice A0_2 l0_2.length c0_2] 27 (0,0)) (blkU BK447.out) hb);have n1_:=Aside0.mk (below_step (by repeat (first|(with_reducible first|exact HB.out|apply below_alloc|apply pw_below_drewN|apply below_drew1|refine below_set ?_ GE447.out)|exact HB.out)) hb);clear BK447 HB;have BK447:=n0_;have HB:=n1_;clear n0_ n1_;(try clear hb);(try clear hb2);(try clear hk);(try clear hi)))
  go_ret
  exact ⟨by first|rfl|(simp [errW_none,errW_some] <;> rfl)|(simp [*,errW_none,errW_some] <;> rfl),by repeat (first|(with_reducible first|exact HB.out|apply below_alloc|apply pw_below_drewN|apply below_drew1|refine below_set ?_ GE447.out)|exact HB.out)⟩

end Go.Proofs.YtjfgbpmkboncnaaDoor.PA
