/- The machine side of functions of this seat, written by the session's program myprint.py: for each Go function a Lean function and the proof that the call answers just it. -/
import Derived.Test.YtjfgbpmkboncnaaDoorPAx0
import Derived.Test.YtjfgbpmkboncnaaDoorUp
import Derived.Test.YtjfgbpmkboncnaaDoorPAx2
import Derived.Test.YtjfgbpmkboncnaaDoorPAx24
namespace Go.Proofs.YtjfgbpmkboncnaaDoor.PA
open Go.RowKit Go.Proofs.YtjfgbpmkboncnaaDoorW.PrintWords Go.Proofs.YtjfgbpmkboncnaaDoorW.PrintLast Go.Proofs.YtjfgbpmkboncnaaDoorW.PrintMore
attribute [local go_sem] max2_int min2_int max_two min_two max_three min_three max_four min_four   -- for this text's walks alone
set_option linter.unusedVariables false
set_option linter.unusedSimpArgs false

/-! ### spec_NoCircle: function 12 -/
mutual
def spec_NoCircle.l0 : Nat → List Int → Int → List Int → List Int → List Int → Option (Bool)
 | 0,_,_,_,_,_ => none
 | k + 1,x3,x4,x472000,x472001,x472002 => if x4 < (x3.length : Int) then (if 0 ≤ x4 then (if (rd x3 x4) = 0 then (spec_NoCircle.l0 k x3 (wrap64 (x4 + 1)) x472000 x472001 x472002) else (spec_NoCircle.l1 k x3 x4 0 x472000 x472001 x472002)) else (none)) else (some true)
def spec_NoCircle.l1 : Nat → List Int → Int → Int → List Int → List Int → List Int → Option (Bool)
 | 0,_,_,_,_,_,_ => none
 | k + 1,x3,x4,x5,x472000,x472001,x472002 => if x5 < 2 then (if 0 ≤ x4 then (if x4 < (x472000.length : Int) then (if x5 = 1 then (if x4 < (x472001.length : Int) then (spec_NoCircle.j2 k x3 x4 x5 (rd x472001 x4) x472000 x472001 x472002) else (none)) else (spec_NoCircle.j2 k x3 x4 x5 (rd x472000 x4) x472000 x472001 x472002)) else (none)) else (none)) else (spec_NoCircle.l0 k x3 (wrap64 (x4 + 1)) x472000 x472001 x472002)
def spec_NoCircle.j2 : Nat → List Int → Int → Int → Int → List Int → List Int → List Int → Option (Bool)
 | 0,_,_,_,_,_,_,_ => none
 | k + 1,x3,x4,x5,x6,x472000,x472001,x472002 => if x6 = x4 then (spec_NoCircle.l1 k x3 x4 (wrap64 (x5 + 1)) x472000 x472001 x472002) else (if 0 ≤ (x472000.length : Int) then (if ((x472000.length : Int) : Int).toNat ≤ 35184372088832 then ((some (List.replicate ((x472000.length : Int) : Int).toNat 0 : List Int)).bind fun y479 => (if 0 ≤ x6 then (if x6 < (y479.length : Int) then (spec_NoCircle.l2 k x3 x4 x5 (y479.set (x6 : Int).toNat 1) 0 x472000 x472001 x472002) else (none)) else (none))) else (none)) else (none))
def spec_NoCircle.l2 : Nat → List Int → Int → Int → List Int → Int → List Int → List Int → List Int → Option (Bool)
 | 0,_,_,_,_,_,_,_,_ => none
 | k + 1,x3,x4,x5,x7,x8,x472000,x472001,x472002 => if x8 < (x7.length : Int) then (spec_NoCircle.l3 k x3 x4 x5 x7 x8 0 x472000 x472001 x472002) else (if 0 ≤ x4 then (if x4 < (x7.length : Int) then (if (rd x7 x4) = 1 then (some false) else (spec_NoCircle.l1 k x3 x4 (wrap64 (x5 + 1)) x472000 x472001 x472002)) else (none)) else (none))
def spec_NoCircle.l3 : Nat → List Int → Int → Int → List Int → Int → Int → List Int → List Int → List Int → Option (Bool)
 | 0,_,_,_,_,_,_,_,_,_ => none
 | k + 1,x3,x4,x5,x7,x8,x9,x472000,x472001,x472002 => if x9 < (x7.length : Int) then (if 0 ≤ x9 then (if (rd x7 x9) = 1 then (if x9 < (x472000.length : Int) then (if 0 ≤ (rd x472000 x9) then (if (rd x472000 x9) < (x7.length : Int) then (if x9 < (x472001.length : Int) then (if 0 ≤ (rd x472001 x9) then (if (rd x472001 x9) < (x7.length : Int) then (spec_NoCircle.l3 k x3 x4 x5 ((x7.set ((rd x472000 x9) : Int).toNat 1).set ((rd x472001 x9) : Int).toNat 1) x8 (wrap64 (x9 + 1)) x472000 x472001 x472002) else (none)) else (none)) else (none)) else (none)) else (none)) else (none)) else (spec_NoCircle.l3 k x3 x4 x5 x7 x8 (wrap64 (x9 + 1)) x472000 x472001 x472002)) else (none)) else (spec_NoCircle.l2 k x3 x4 x5 x7 (wrap64 (x8 + 1)) x472000 x472001 x472002)
end
def spec_NoCircle.f (k : Nat) (l0_0 : List Int) (l0_1 : List Int) (l0_2 : List Int) : Option (Bool):=(spec_MachineOk.f k l0_0 l0_1 l0_2).bind fun t472 => (if t472 = true then ((spec_l4Reached.f k l0_0 l0_1 l0_2).bind fun t473 => (spec_NoCircle.l0 k t473 0 l0_0 l0_1 l0_2)) else (some false))
theorem spec_NoCircle.mono_l : ∀ k,(∀ y0 y1 y2 y3 y4,LeO (spec_NoCircle.l0 k y0 y1 y2 y3 y4) (spec_NoCircle.l0 (k + 1) y0 y1 y2 y3 y4)) ∧ (∀ y0 y1 y2 y3 y4 y5,LeO (spec_NoCircle.l1 k y0 y1 y2 y3 y4 y5) (spec_NoCircle.l1 (k + 1) y0 y1 y2 y3 y4 y5)) ∧ (∀ y0 y1 y2 y3 y4 y5 y6,LeO (spec_NoCircle.j2 k y0 y1 y2 y3 y4 y5 y6) (spec_NoCircle.j2 (k + 1) y0 y1 y2 y3 y4 y5 y6)) ∧ (∀ y0 y1 y2 y3 y4 y5 y6 y7,LeO (spec_NoCircle.l2 k y0 y1 y2 y3 y4 y5 y6 y7) (spec_NoCircle.l2 (k + 1) y0 y1 y2 y3 y4 y5 y6 y7)) ∧ (∀ y0 y1 y2 y3 y4 y5 y6 y7 y8,LeO (spec_NoCircle.l3 k y0 y1 y2 y3 y4 y5 y6 y7 y8) (spec_NoCircle.l3 (k + 1) y0 y1 y2 y3 y4 y5 y6 y7 y8))
 | 0 => ⟨fun _ _ _ _ _ r h => by simp [spec_NoCircle.l0] at h,fun _ _ _ _ _ _ r h => by simp [spec_NoCircle.l1] at h,fun _ _ _ _ _ _ _ r h => by simp [spec_NoCircle.j2] at h,fun _ _ _ _ _ _ _ _ r h => by simp [spec_NoCircle.l2] at h,fun _ _ _ _ _ _ _ _ _ r h => by simp [spec_NoCircle.l3] at h⟩
 | k + 1 => by
  obtain ⟨ih0,ih1,ih2,ih3,ih4⟩:=spec_NoCircle.mono_l k
  refine ⟨?_,?_,?_,?_,?_⟩
  ·
   intro y0 y1 y2 y3 y4
   unfold spec_NoCircle.l0
   repeat' first
   | (with_reducible exact ih0 _ _ _ _ _)
   | (with_reducible exact ih1 _ _ _ _ _ _)
   | (with_reducible exact ih2 _ _ _ _ _ _ _)
   | (with_reducible exact ih3 _ _ _ _ _ _ _ _)
   | (with_reducible exact ih4 _ _ _ _ _ _ _ _ _)
   | (with_reducible exact spec_MachineOk.mono _ _ _ _)
   | (with_reducible exact spec_l4Reached.mono _ _ _ _)
   | (with_reducible exact LeO.refl _)
   | (with_reducible exact LeO.none _)
   | (with_reducible refine LeO.ite ?_ ?_)
   | (with_reducible refine LeO.bind ?_ (fun _ => ?_))
   | exact ih0 _ _ _ _ _
   | exact ih1 _ _ _ _ _ _
   | exact ih2 _ _ _ _ _ _ _
   | exact ih3 _ _ _ _ _ _ _ _
   | exact ih4 _ _ _ _ _ _ _ _ _
   | exact spec_MachineOk.mono _ _ _ _
   | exact spec_l4Reached.mono _ _ _ _
   | exact LeO.none _
   | refine LeO.ite ?_ ?_
   | refine LeO.bind ?_ (fun _ => ?_)
  ·
   intro y0 y1 y2 y3 y4 y5
   unfold spec_NoCircle.l1
   repeat' first
   | (with_reducible exact ih0 _ _ _ _ _)
   | (with_reducible exact ih1 _ _ _ _ _ _)
   | (with_reducible exact ih2 _ _ _ _ _ _ _)
   | (with_reducible exact ih3 _ _ _ _ _ _ _ _)
   | (with_reducible exact ih4 _ _ _ _ _ _ _ _ _)
   | (with_reducible exact spec_MachineOk.mono _ _ _ _)
   | (with_reducible exact spec_l4Reached.mono _ _ _ _)
   | (with_reducible exact LeO.refl _)
   | (with_reducible exact LeO.none _)
   | (with_reducible refine LeO.ite ?_ ?_)
   | (with_reducible refine LeO.bind ?_ (fun _ => ?_))
   | exact ih0 _ _ _ _ _
   | exact ih1 _ _ _ _ _ _
   | exact ih2 _ _ _ _ _ _ _
   | exact ih3 _ _ _ _ _ _ _ _
   | exact ih4 _ _ _ _ _ _ _ _ _
   | exact spec_MachineOk.mono _ _ _ _
   | exact spec_l4Reached.mono _ _ _ _
   | exact LeO.none _
   | refine LeO.ite ?_ ?_
   | refine LeO.bind ?_ (fun _ => ?_)
  ·
   intro y0 y1 y2 y3 y4 y5 y6
   unfold spec_NoCircle.j2
   repeat' first
   | (with_reducible exact ih0 _ _ _ _ _)
   | (with_reducible exact ih1 _ _ _ _ _ _)
   | (with_reducible exact ih2 _ _ _ _ _ _ _)
   | (with_reducible exact ih3 _ _ _ _ _ _ _ _)
   | (with_reducible exact ih4 _ _ _ _ _ _ _ _ _)
   | (with_reducible exact spec_MachineOk.mono _ _ _ _)
   | (with_reducible exact spec_l4Reached.mono _ _ _ _)
   | (with_reducible exact LeO.refl _)
   | (with_reducible exact LeO.none _)
   | (with_reducible refine LeO.ite ?_ ?_)
   | (with_reducible refine LeO.bind ?_ (fun _ => ?_))
   | exact ih0 _ _ _ _ _
   | exact ih1 _ _ _ _ _ _
   | exact ih2 _ _ _ _ _ _ _
   | exact ih3 _ _ _ _ _ _ _ _
   | exact ih4 _ _ _ _ _ _ _ _ _
   | exact spec_MachineOk.mono _ _ _ _
   | exact spec_l4Reached.mono _ _ _ _
   | exact LeO.none _
   | refine LeO.ite ?_ ?_
   | refine LeO.bind ?_ (fun _ => ?_)
  ·
   intro y0 y1 y2 y3 y4 y5 y6 y7
   unfold spec_NoCircle.l2
   repeat' first
   | (with_reducible exact ih0 _ _ _ _ _)
   | (with_reducible exact ih1 _ _ _ _ _ _)
   | (with_reducible exact ih2 _ _ _ _ _ _ _)
   | (with_reducible exact ih3 _ _ _ _ _ _ _ _)
   | (with_reducible exact ih4 _ _ _ _ _ _ _ _ _)
   | (with_reducible exact spec_MachineOk.mono _ _ _ _)
   | (with_reducible exact spec_l4Reached.mono _ _ _ _)
   | (with_reducible exact LeO.refl _)
   | (with_reducible exact LeO.none _)
   | (with_reducible refine LeO.ite ?_ ?_)
   | (with_reducible refine LeO.bind ?_ (fun _ => ?_))
   | exact ih0 _ _ _ _ _
   | exact ih1 _ _ _ _ _ _
   | exact ih2 _ _ _ _ _ _ _
   | exact ih3 _ _ _ _ _ _ _ _
   | exact ih4 _ _ _ _ _ _ _ _ _
   | exact spec_MachineOk.mono _ _ _ _
   | exact spec_l4Reached.mono _ _ _ _
   | exact LeO.none _
   | refine LeO.ite ?_ ?_
   | refine LeO.bind ?_ (fun _ => ?_)
  ·
   intro y0 y1 y2 y3 y4 y5 y6 y7 y8
   unfold spec_NoCircle.l3
   repeat' first
   | (with_reducible exact ih0 _ _ _ _ _)
   | (with_reducible exact ih1 _ _ _ _ _ _)
   | (with_reducible exact ih2 _ _ _ _ _ _ _)
   | (with_reducible exact ih3 _ _ _ _ _ _ _ _)
   | (with_reducible exact ih4 _ _ _ _ _ _ _ _ _)
   | (with_reducible exact spec_MachineOk.mono _ _ _ _)
   | (with_reducible exact spec_l4Reached.mono _ _ _ _)
   | (with_reducible exact LeO.refl _)
   | (with_reducible exact LeO.none _)
   | (with_reducible refine LeO.ite ?_ ?_)
   | (with_reducible refine LeO.bind ?_ (fun _ => ?_))
   | exact ih0 _ _ _ _ _
   | exact ih1 _ _ _ _ _ _
   | exact ih2 _ _ _ _ _ _ _
   | exact ih3 _ _ _ _ _ _ _ _
   | exact ih4 _ _ _ _ _ _ _ _ _
   | exact spec_MachineOk.mono _ _ _ _
   | exact spec_l4Reached.mono _ _ _ _
   | exact LeO.none _
   | refine LeO.ite ?_ ?_
   | refine LeO.bind ?_ (fun _ => ?_)
theorem spec_NoCircle.mono : ∀ a0 a1 a2 k,LeO (spec_NoCircle.f k a0 a1 a2) (spec_NoCircle.f (k + 1) a0 a1 a2):=by
 intro a0 a1 a2 k
 obtain ⟨ih0,ih1,ih2,ih3,ih4⟩:=spec_NoCircle.mono_l k
 unfold spec_NoCircle.f
 repeat' first
   | (with_reducible exact ih0 _ _ _ _ _)
   | (with_reducible exact ih1 _ _ _ _ _ _)
   | (with_reducible exact ih2 _ _ _ _ _ _ _)
   | (with_reducible exact ih3 _ _ _ _ _ _ _ _)
   | (with_reducible exact ih4 _ _ _ _ _ _ _ _ _)
   | (with_reducible exact spec_MachineOk.mono _ _ _ _)
   | (with_reducible exact spec_l4Reached.mono _ _ _ _)
   | (with_reducible exact LeO.refl _)
   | (with_reducible exact LeO.none _)
   | (with_reducible refine LeO.ite ?_ ?_)
   | (with_reducible refine LeO.bind ?_ (fun _ => ?_))
   | exact ih0 _ _ _ _ _
   | exact ih1 _ _ _ _ _ _
   | exact ih2 _ _ _ _ _ _ _
   | exact ih3 _ _ _ _ _ _ _ _
   | exact ih4 _ _ _ _ _ _ _ _ _
   | exact spec_MachineOk.mono _ _ _ _
   | exact spec_l4Reached.mono _ _ _ _
   | exact LeO.none _
   | refine LeO.ite ?_ ?_
   | refine LeO.bind ?_ (fun _ => ?_)
set_option maxHeartbeats 8000000 in
set_option maxRecDepth 100000 in
theorem spec_NoCircle.calls (k : Nat) (A0_0 : Option Addr) (c0_0 : Nat) (l0_0 : List Int) (A0_1 : Option Addr) (c0_1 : Nat) (l0_1 : List Int) (A0_2 : Option Addr) (c0_2 : Nat) (l0_2 : List Int) (r : Bool) (w : World) (hr0_0 : Kd.C (Kd.int .i64) w A0_0 l0_0.length l0_0) (hc0_0 : l0_0.length ≤ c0_0) (hr0_1 : Kd.C (Kd.int .i64) w A0_1 l0_1.length l0_1) (hc0_1 : l0_1.length ≤ c0_1) (hr0_2 : Kd.C (Kd.int .i64) w A0_2 l0_2.length l0_2) (hc0_2 : l0_2.length ≤ c0_2) (h : spec_NoCircle.f k l0_0 l0_1 l0_2 = some r) :
  Calls Tryd.prog 12 #[.agg #[.slice A0_0 l0_0.length c0_0,.slice A0_1 l0_1.length c0_1,.slice A0_2 l0_2.length c0_2]] w fun e w' => e = .returned (.bool r) ∧ Below w.heap.size w w':=by
 have hu27:=Tryd.underlying27
 have HR0_0:=Aside0.mk hr0_0
 have HC0_0:=Aside0.mk hc0_0;clear hr0_0 hc0_0
 have HR0_1:=Aside0.mk hr0_1
 have HC0_1:=Aside0.mk hc0_1;clear hr0_1 hc0_1
 have HR0_2:=Aside0.mk hr0_2
 have HC0_2:=Aside0.mk hc0_2;clear hr0_2 hc0_2;have HB:=Aside0.mk (Below.refl w.heap.size w)
 have H : ((spec_MachineOk.f k l0_0 l0_1 l0_2).bind fun t472 => (if t472 = true then ((spec_l4Reached.f k l0_0 l0_1 l0_2).bind fun t473 => (spec_NoCircle.l0 k t473 0 l0_0 l0_1 l0_2)) else (some false))) = some r:=h;clear h
 replace H:=Option.bind_eq_some_iff.mp H
 obtain ⟨t472,A20,H⟩:=H
 replace H : (if t472 = true then ((spec_l4Reached.f k l0_0 l0_1 l0_2).bind fun t473 => (spec_NoCircle.l0 k t473 0 l0_0 l0_1 l0_2)) else (some false)) = some r:=H
 have A2:=Aside0.mk A20;clear A20
 by_cases c3 : t472 = true
 ·
  subst c3
  have H1 : ((spec_l4Reached.f k l0_0 l0_1 l0_2).bind fun t473 => (spec_NoCircle.l0 k t473 0 l0_0 l0_1 l0_2)) = some r:=by rw [if_pos rfl] at H;exact H
  clear H;have H:=H1;clear H1
  replace H:=Option.bind_eq_some_iff.mp H
  obtain ⟨t473,A40,H⟩:=H
  replace H : (spec_NoCircle.l0 k t473 0 l0_0 l0_1 l0_2) = some r:=H
  have A4:=Aside0.mk A40;clear A40
  have H':=Aside0.mk H;clear H
  go_enter Tryd.func12,Tryd.ntmps12
  go_wp2_with (first|((with_reducible refine gate_dst (N:=1) rfl ?_);refine box_event ?hg (N:=1) ?hd (cs:=#[.slice A0_0 l0_0.length c0_0,.slice A0_1 l0_1.length c0_1,.slice A0_2 l0_2.length c0_2]) (t:=27) ?hr ?_;(case hd => rfl);(case hg => rfl);(case hr => first|(go_simp;done)|(go_simp;rfl));intro gb471 hg w5 hbox hb;have n0_:=Aside0.mk (below_step (belU HB.out) hb);have n1_:=Aside0.mk (hbox);have n2_:=Aside0.mk ((by rw [hg];exact (below_size (belU HB.out)) : w.heap.size ≤ gb471));have n3_:=Aside0.mk ((by rw [hg];exact (below_size (belU HB.out)) : w.heap.size ≤ gb471));clear HB;have HB:=n0_;have BK471:=n1_;have GW471:=n2_;have GE471:=n3_;clear n0_ n1_ n2_ n3_ hb hbox hg;have hcz6_0 : w5.cell? ⟨gb471,0,none⟩ = some (.slice A0_0 l0_0.length c0_0):=(blk_cell BK471.out 0).trans rfl;have hcz6_1 : w5.cell? ⟨gb471,1,none⟩ = some (.slice A0_1 l0_1.length c0_1):=(blk_cell BK471.out 1).trans rfl;have hcz6_2 : w5.cell? ⟨gb471,2,none⟩ = some (.slice A0_2 l0_2.length c0_2):=(blk_cell BK471.out 2).trans rfl;have hfz6_0:=blk_frozen BK471.out 0;have hfz6_1:=blk_frozen BK471.out 1;have hfz6_2:=blk_frozen BK471.out 2)|((with_reducible refine gate_callee (f:=17) rfl ?_);refine goesL_ (some 11) rfl rfl Tryd.func17 (by kernel_rfl) rfl #[.agg #[.slice A0_0 l0_0.length c0_0,.slice A0_1 l0_1.length c0_1,.slice A0_2 l0_2.length c0_2]] rfl (by (try simp only [List.map_toArray,List.map_cons,List.map_nil]);first|done|rfl|(simp only [List.length_drop,List.length_take];rfl)) ?_;(with_reducible refine (spec_MachineOk.calls k _ _ l0_0 _ _ l0_1 _ _ l0_2 true _ ?side1 ?side2 ?side3 ?side4 ?side5 ?side6 A2.out).mono ?_);(case side1 => exact cU (Kd.C_below HR0_0.out HB.out));(case side2 => exact HC0_0.out);(case side3 => exact cU (Kd.C_below HR0_1.out HB.out));(case side4 => exact HC0_1.out);(case side5 => exact cU (Kd.C_below HR0_2.out HB.out));(case side6 => exact HC0_2.out);rintro e w7 ⟨rfl,hb⟩;refine ⟨_,rfl,?_⟩;have n0_:=Aside0.mk (blk_below (g:=gb471) (o:=.cells #[.slice A0_0 l0_0.length c0_0,.slice A0_1 l0_1.length c0_1,.slice A0_2 l0_2.length c0_2] 27 (0,0)) (blkU BK471.out) hb);have n1_:=Aside0.mk (below_step (by repeat (first|(with_reducible first|exact HB.out|apply below_alloc|apply pw_below_drewN|apply below_drew1|refine below_set ?_ GE471.out)|exact HB.out)) hb);clear BK471 HB;have BK471:=n0_;have HB:=n1_;clear n0_ n1_;(try clear hb);(try clear hb2);(try clear hk);(try clear hi);have hcz8_0 : w7.cell? ⟨gb471,0,none⟩ = some (.slice A0_0 l0_0.length c0_0):=(blk_cell BK471.out 0).trans rfl;have hcz8_1 : w7.cell? ⟨gb471,1,none⟩ = some (.slice A0_1 l0_1.length c0_1):=(blk_cell BK471.out 1).trans rfl;have hcz8_2 : w7.cell? ⟨gb471,2,none⟩ = some (.slice A0_2 l0_2.length c0_2):=(blk_cell BK471.out 2).trans rfl;have hfz8_0:=blk_frozen BK471.out 0;have hfz8_1:=blk_frozen BK471.out 1;have hfz8_2:=blk_frozen BK471.out 2)|((with_reducible refine gate_callee (f:=29) rfl ?_);refine goesL_ (some 14) rfl rfl Tryd.func29 (by kernel_rfl) rfl #[.agg #[.slice A0_0 l0_0.length c0_0,.slice A0_1 l0_1.length c0_1,.slice A0_2 l0_2.length c0_2]] rfl (by (try simp only [List.map_toArray,List.map_cons,List.map_nil]);first|done|rfl|(simp only [List.length_drop,List.length_take];rfl)) ?_;(with_reducible refine (spec_l4Reached.calls k _ _ l0_0 _ _ l0_1 _ _ l0_2 t473 _ ?side1 ?side2 ?side3 ?side4 ?side5 ?side6 A4.out).mono ?_);(case side1 => exact cU (Kd.C_below HR0_0.out HB.out));(case side2 => exact HC0_0.out);(case side3 => exact cU (Kd.C_below HR0_1.out HB.out));(case side4 => exact HC0_1.out);(case side5 => exact cU (Kd.C_below HR0_2.out HB.out));(case side6 => exact HC0_2.out);rintro e w9 ⟨v474,rfl,ho0,hb⟩;refine ⟨_,rfl,?_⟩;have n0_:=Aside0.mk (Kd.R_lower ho0 (below_size (by repeat (first|(with_reducible first|exact HB.out|apply below_alloc|apply pw_below_drewN|apply below_drew1|refine below_set ?_ GE471.out)|exact HB.out))));have n1_:=Aside0.mk (blk_below (g:=gb471) (o:=.cells #[.slice A0_0 l0_0.length c0_0,.slice A0_1 l0_1.length c0_1,.slice A0_2 l0_2.length c0_2] 27 (0,0)) (blkU BK471.out) hb);have n2_:=Aside0.mk (below_step (by repeat (first|(with_reducible first|exact HB.out|apply below_alloc|apply pw_below_drewN|apply below_drew1|refine below_set ?_ GE471.out)|exact HB.out)) hb);clear BK471 HB;have HO475:=n0_;have BK471:=n1_;have HB:=n2_;clear n0_ n1_ n2_;(try clear hb);(try clear hb2);(try clear hk);(try clear hi);(try clear ho0)))
  go_loopg [4] k (fun kq v4 w' => ∃ (x3_1 : List Int) (x4_1 : Int),v4 = .int .i64 x4_1 ∧ Aside0 (spec_NoCircle.l0 kq x3_1 x4_1 l0_0 l0_1 l0_2 = some r) ∧ Aside0 (kq ≤ k) ∧ Aside0 (Kd.R (Kd.int .i64) 3 w' w.heap.size (fun _ => True) v474 x3_1) ∧ Aside0 (w'.heap[gb471]? = some (.cells #[(.slice A0_0 l0_0.length c0_0),(.slice A0_1 l0_1.length c0_1),(.slice A0_2 l0_2.length c0_2)] 27 (0,0))) ∧ Aside0 (Below w.heap.size w w'))
  case atStart => exact ⟨(t473),(0),(by first|rfl|(simp;done)|(simp [*];done)),H',⟨Nat.le_refl _⟩,⟨rU HO475.out⟩,⟨blkU BK471.out⟩,⟨by repeat (first|(with_reducible first|exact HB.out|apply below_alloc|apply pw_below_drewN|apply below_drew1|refine below_set ?_ GE471.out)|exact HB.out)⟩⟩
  case round =>
   clear H'
   try clear c1
   try clear c2
   try clear p2
   try clear c3
   try clear hcz6_0
   try clear hcz6_1
   try clear hcz6_2
   try clear hcz8_0
   try clear hcz8_1
   try clear hcz8_2
   try clear hfz6_0
   try clear hfz6_1
   try clear hfz6_2
   try clear hfz8_0
   try clear hfz8_1
   try clear hfz8_2
   obtain ⟨x3_1,x4_1,rfl,HA,HK1,HO_3,BK471,HB⟩:=hrel
   cases gk with
   | zero => exact absurd HA.out (by simp [spec_NoCircle.l0])
   | succ k1 =>
    have H:=HA.out;clear HA
    simp only [spec_NoCircle.l0] at H
    by_cases c10 : x4_1 < (x3_1.length : Int)
    ·
     rw [if_pos c10] at H
     have c10b0 : decide (x4_1 < (x3_1.length : Int)) = true:=decide_eq_true c10;clear c10
     by_cases c11 : 0 ≤ x4_1
     ·
      rw [if_pos c11] at H
      have c11b0 : decide (0 ≤ x4_1) = true:=decide_eq_true c11;clear c11
      by_cases c12 : (rd x3_1 x4_1) = 0
      ·
       rw [if_pos c12] at H
       have c12b0 : ((rd x3_1 x4_1) == 0) = true:=beq_iff_eq.mpr c12
       have c12b1 : ((rd x3_1 x4_1) != 0) = false:=bne_eq_false_iff_eq.mpr c12;clear c12
       have H':=Aside0.mk H;clear H
       obtain ⟨Ao13,co13,eo13⟩:=Kd.R_slice HO_3.out;subst eo13
       have p476 : 0 ≤ (x4_1 : Int):=of_decide_eq_true (by first|(with_reducible assumption)|assumption)
       have q476 : x4_1 < (x3_1.length : Int):=of_decide_eq_true (by first|(with_reducible assumption)|assumption)
       obtain ⟨ad476,e476,hx476_0⟩:=Kd.at_int (Kd.R_reads' HO_3.out).2.2 x4_1 p476 q476
       cases e476
       replace p476:=eq_true p476
       replace q476:=eq_true q476
       go_wp2
       go_roundg k1
       case measure => have:=HK1.out;omega
       case rel => exact ⟨(x3_1),(wrap64 (x4_1 + 1)),(by first|rfl|(simp;done)|(simp [*];done)),H',⟨by have:=HK1.out;omega⟩,⟨rU HO_3.out⟩,⟨blkU BK471.out⟩,⟨by repeat (first|(with_reducible first|exact HB.out|apply below_alloc|apply pw_below_drewN|apply below_drew1|refine below_set ?_ GE471.out)|exact HB.out)⟩⟩
      ·
       rw [if_neg c12] at H
       have c12b0 : ((rd x3_1 x4_1) == 0) = false:=beq_eq_false_iff_ne.mpr c12
       have c12b1 : ((rd x3_1 x4_1) != 0) = true:=bne_iff_ne.mpr c12
       have H':=Aside0.mk H;clear H
       obtain ⟨Ao14,co14,eo14⟩:=Kd.R_slice HO_3.out;subst eo14
       have p476 : 0 ≤ (x4_1 : Int):=of_decide_eq_true (by first|(with_reducible assumption)|assumption)
       have q476 : x4_1 < (x3_1.length : Int):=of_decide_eq_true (by first|(with_reducible assumption)|assumption)
       obtain ⟨ad476,e476,hx476_0⟩:=Kd.at_int (Kd.R_reads' HO_3.out).2.2 x4_1 p476 q476
       cases e476
       replace p476:=eq_true p476
       replace q476:=eq_true q476
       go_wp2
       go_loopg [5] k1 (fun kq v5 w' => ∃ (x3_2 : List Int) (x5_2 : Int),v5 = .int .i64 x5_2 ∧ Aside0 (spec_NoCircle.l1 kq x3_2 x4_1 x5_2 l0_0 l0_1 l0_2 = some r) ∧ Aside0 (kq ≤ k1) ∧ Aside0 (Kd.R (Kd.int .i64) 3 w' w.heap.size (fun _ => True) (.slice (some ad476) x3_1.length co14) x3_2) ∧ Aside0 (w'.heap[gb471]? = some (.cells #[(.slice A0_0 l0_0.length c0_0),(.slice A0_1 l0_1.length c0_1),(.slice A0_2 l0_2.length c0_2)] 27 (0,0))) ∧ Aside0 (Below w.heap.size w w'))
       case atStart => exact ⟨(x3_1),(0),(by first|rfl|(simp;done)|(simp [*];done)),H',⟨Nat.le_refl _⟩,⟨rU HO_3.out⟩,⟨blkU BK471.out⟩,⟨by repeat (first|(with_reducible first|exact HB.out|apply below_alloc|apply pw_below_drewN|apply below_drew1|refine below_set ?_ GE471.out)|exact HB.out)⟩⟩
       case round =>
        clear H'
        try clear c1
        try clear c2
        try clear p2
        try clear c3
        try clear p4
        try clear q4
        try clear hx4
        try clear p6
        try clear c10
        try clear c10b0
        try clear c11
        try clear c11b0
        try clear c12
        try clear c12b0
        try clear c12b1
        try clear hcz6_0
        try clear hcz6_1
        try clear hcz6_2
        try clear hcz8_0
        try clear hcz8_1
        try clear hcz8_2
        try clear hfz6_0
        try clear hfz6_1
        try clear hfz6_2
        try clear hfz8_0
        try clear hfz8_1
        try clear hfz8_2
        try clear hx476_0
        try clear p2
        try clear p476
        try clear q476
        obtain ⟨x3_2,x5_2,rfl,HA,HK2,HO_3,BK471,HB⟩:=hrel
        have hl3_2:=(Kd.R_reads' HO_3.out).1
        rw [hl3_2] at HO_3
        (try simp only [hl3_2])
        (try simp only [hl3_2] at BK471)
        cases gk with
        | zero => exact absurd HA.out (by simp [spec_NoCircle.l1])
        | succ k2 =>
         have H:=HA.out;clear HA
         simp only [spec_NoCircle.l1] at H
         by_cases c15 : x5_2 < 2
         ·
          rw [if_pos c15] at H
          have c15b0 : decide (x5_2 < 2) = true:=decide_eq_true c15;clear c15
          by_cases c16 : 0 ≤ x4_1
          ·
           rw [if_pos c16] at H
           have c16b0 : decide (0 ≤ x4_1) = true:=decide_eq_true c16;clear c16
           by_cases c17 : x4_1 < (l0_0.length : Int)
           ·
            rw [if_pos c17] at H
            have c17b0 : decide (x4_1 < (l0_0.length : Int)) = true:=decide_eq_true c17;clear c17
            have HC18:=Aside0.mk H;clear H
            have hcz19_0 : wr.cell? ⟨gb471,0,none⟩ = some (.slice A0_0 l0_0.length c0_0):=(blk_cell BK471.out 0).trans rfl
            have hcz19_1 : wr.cell? ⟨gb471,1,none⟩ = some (.slice A0_1 l0_1.length c0_1):=(blk_cell BK471.out 1).trans rfl
            have hcz19_2 : wr.cell? ⟨gb471,2,none⟩ = some (.slice A0_2 l0_2.length c0_2):=(blk_cell BK471.out 2).trans rfl
            have hfz19_0:=blk_frozen BK471.out 0
            have hfz19_1:=blk_frozen BK471.out 1
            have hfz19_2:=blk_frozen BK471.out 2
            have p477 : 0 ≤ (x4_1 : Int):=of_decide_eq_true (by first|(with_reducible assumption)|assumption)
            have q477 : x4_1 < (l0_0.length : Int):=of_decide_eq_true (by first|(with_reducible assumption)|assumption)
            obtain ⟨ad477,e477,hx477_0⟩:=Kd.at_int HR0_0.out x4_1 p477 q477
            cases e477
            replace hx477_0:=(HB.out.cell (World.block_lt_of_cell? w _ hx477_0)).trans hx477_0
            replace p477:=eq_true p477
            replace q477:=eq_true q477
            go_upto_if 36 with (fail)
            go_cut [6] (fun v6 wc => ∃ (kq : Nat) (x6_17 : Int),v6 = .int .i64 x6_17 ∧ Aside0 (spec_NoCircle.j2 kq x3_2 x4_1 x5_2 x6_17 l0_0 l0_1 l0_2 = some r) ∧ Aside0 (kq ≤ k2) ∧ Aside0 (Kd.R (Kd.int .i64) 3 wc w.heap.size (fun _ => True) (.slice (some ad476) x3_2.length co14) x3_2) ∧ Aside0 (wc.heap[gb471]? = some (.cells #[(.slice (some ad477) l0_0.length c0_0),(.slice A0_1 l0_1.length c0_1),(.slice A0_2 l0_2.length c0_2)] 27 (0,0))) ∧ Aside0 (Below w.heap.size w wc))
            case first =>
             have H:=HC18.out;clear HC18
             by_cases c20 : x5_2 = 1
             ·
              rw [if_pos c20] at H
              have c20b0 : (x5_2 == 1) = true:=beq_iff_eq.mpr c20
              have c20b1 : (x5_2 != 1) = false:=bne_eq_false_iff_eq.mpr c20;clear c20
              (first|rw [c20b0]|(simp only [i64_w,i32_w];rw [c20b0])|skip)
              by_cases c21 : x4_1 < (l0_1.length : Int)
              ·
               rw [if_pos c21] at H
               have c21b0 : decide (x4_1 < (l0_1.length : Int)) = true:=decide_eq_true c21;clear c21
               have H':=Aside0.mk H;clear H
               have hcz22_0 : wr.cell? ⟨gb471,0,none⟩ = some (.slice (some ad477) l0_0.length c0_0):=(blk_cell BK471.out 0).trans rfl
               have hcz22_1 : wr.cell? ⟨gb471,1,none⟩ = some (.slice A0_1 l0_1.length c0_1):=(blk_cell BK471.out 1).trans rfl
               have hcz22_2 : wr.cell? ⟨gb471,2,none⟩ = some (.slice A0_2 l0_2.length c0_2):=(blk_cell BK471.out 2).trans rfl
               have hfz22_0:=blk_frozen BK471.out 0
               have hfz22_1:=blk_frozen BK471.out 1
               have hfz22_2:=blk_frozen BK471.out 2
               have p478 : 0 ≤ (x4_1 : Int):=of_decide_eq_true (by first|(with_reducible assumption)|assumption)
               have q478 : x4_1 < (l0_1.length : Int):=of_decide_eq_true (by first|(with_reducible assumption)|assumption)
               obtain ⟨ad478,e478,hx478_0⟩:=Kd.at_int HR0_1.out x4_1 p478 q478
               cases e478
               replace hx478_0:=(HB.out.cell (World.block_lt_of_cell? w _ hx478_0)).trans hx478_0
               replace p478:=eq_true p478
               replace q478:=eq_true q478
               go_wp2
               go_meet
               case rel => exact ⟨_,(rd l0_1 x4_1),(by first|rfl|(simp;done)|(simp [*];done)),H',⟨by have:=HK1.out;have:=HK2.out;first|omega|exact Nat.le_refl _⟩,⟨by (try simp only [hl3_2]);(with_reducible repeat (first|apply Kd.R_alloc|apply Kd.R_drewN|apply Kd.R_drew));exact HO_3.out⟩,⟨by (try simp only [hl3_2]);(with_reducible repeat (first|refine blk_drewN ?_ _|refine blk_drew ?_|refine blk_alloc ?_ _));exact BK471.out⟩,⟨by repeat (first|(with_reducible first|exact HB.out|apply below_alloc|apply pw_below_drewN|apply below_drew1|refine below_set ?_ GE471.out)|exact HB.out)⟩⟩
              ·
               rw [if_neg c21] at H
               exact absurd H (by simp)
             ·
              rw [if_neg c20] at H
              have c20b0 : (x5_2 == 1) = false:=beq_eq_false_iff_ne.mpr c20
              have c20b1 : (x5_2 != 1) = true:=bne_iff_ne.mpr c20
              (first|rw [c20b0]|(simp only [i64_w,i32_w];rw [c20b0])|skip)
              have H':=Aside0.mk H;clear H
              go_wp2
              go_meet
              case rel => exact ⟨_,(rd l0_0 x4_1),(by first|rfl|(simp;done)|(simp [*];done)),H',⟨by have:=HK1.out;have:=HK2.out;first|omega|exact Nat.le_refl _⟩,⟨by (try simp only [hl3_2]);(with_reducible repeat (first|apply Kd.R_alloc|apply Kd.R_drewN|apply Kd.R_drew));exact HO_3.out⟩,⟨by (try simp only [hl3_2]);(with_reducible repeat (first|refine blk_drewN ?_ _|refine blk_drew ?_|refine blk_alloc ?_ _));exact BK471.out⟩,⟨by repeat (first|(with_reducible first|exact HB.out|apply below_alloc|apply pw_below_drewN|apply below_drew1|refine below_set ?_ GE471.out)|exact HB.out)⟩⟩
            case rest =>
             clear HC18
             try clear c1
             try clear c2
             try clear p2
             try clear c3
             try clear p4
             try clear q4
             try clear hx4
             try clear p6
             try clear c10
             try clear c10b0
             try clear c11
             try clear c11b0
             try clear c12
             try clear c12b0
             try clear c12b1
             try clear c15
             try clear c15b0
             try clear c16
             try clear c16b0
             try clear c17
             try clear c17b0
             try clear c20
             try clear c20b0
             try clear c20b1
             try clear c21
             try clear c21b0
             try clear hcz19_0
             try clear hcz19_1
             try clear hcz19_2
             try clear hcz22_0
             try clear hcz22_1
             try clear hcz22_2
             try clear hcz6_0
             try clear hcz6_1
             try clear hcz6_2
             try clear hcz8_0
             try clear hcz8_1
             try clear hcz8_2
             try clear hfz19_0
             try clear hfz19_1
             try clear hfz19_2
             try clear hfz22_0
             try clear hfz22_1
             try clear hfz22_2
             try clear hfz6_0
             try clear hfz6_1
             try clear hfz6_2
             try clear hfz8_0
             try clear hfz8_1
             try clear hfz8_2
             try clear hx476_0
             try clear hx477_0
             try clear hx478_0
             try clear p2
             try clear p4
             try clear p476
             try clear p477
             try clear p478
             try clear p6
             try clear q4
             try clear q476
             try clear q477
             try clear q478
             obtain ⟨kq,x6_17,rfl,HA,HJ17,HO_3,BK471,HB⟩:=hcut
             cases kq with
             | zero => exact absurd HA.out (by simp [spec_NoCircle.j2])
             | succ kj17 =>
              have H:=HA.out;clear HA
              simp only [spec_NoCircle.j2] at H
              by_cases c23 : x6_17 = x4_1
              ·
               rw [if_pos c23] at H
               have c23b0 : (x6_17 == x4_1) = true:=beq_iff_eq.mpr c23
               have c23b1 : (x6_17 != x4_1) = false:=bne_eq_false_iff_eq.mpr c23;clear c23
               have H':=Aside0.mk H;clear H
               go_wp2
               (try simp only [← hl3_2])
               go_roundg kj17
               case measure => have:=HK1.out;have:=HK2.out;have:=HJ17.out;omega
               case rel => exact ⟨(x3_2),(wrap64 (x5_2 + 1)),(by first|rfl|(simp;done)|(simp [*];done)),H',⟨by have:=HK1.out;have:=HK2.out;have:=HJ17.out;omega⟩,⟨by (try simp only [hl3_2]);(with_reducible repeat (first|apply Kd.R_alloc|apply Kd.R_drewN|apply Kd.R_drew));exact HO_3.out⟩,⟨by (try simp only [hl3_2]);(with_reducible repeat (first|refine blk_drewN ?_ _|refine blk_drew ?_|refine blk_alloc ?_ _));exact BK471.out⟩,⟨by repeat (first|(with_reducible first|exact HB.out|apply below_alloc|apply pw_below_drewN|apply below_drew1|refine below_set ?_ GE471.out)|exact HB.out)⟩⟩
              ·
               rw [if_neg c23] at H
               have c23b0 : (x6_17 == x4_1) = false:=beq_eq_false_iff_ne.mpr c23
               have c23b1 : (x6_17 != x4_1) = true:=bne_iff_ne.mpr c23
               by_cases c24 : 0 ≤ (l0_0.length : Int)
               ·
                rw [if_pos c24] at H
                have c24b0:=eq_true c24
                have c24b1 : decide (0 ≤ (l0_0.length : Int)) = true:=decide_eq_true c24;clear c24
                by_cases c25 : ((l0_0.length : Int) : Int).toNat ≤ 35184372088832
                ·
                 rw [if_pos c25] at H
                 have c25b0:=eq_true c25
                 have c25b1 : decide (((l0_0.length : Int) : Int).toNat ≤ 35184372088832) = true:=decide_eq_true c25;clear c25
                 obtain ⟨y479,hy479⟩ : ∃ y_ : List Int,y_ = (List.replicate ((l0_0.length : Int) : Int).toNat 0):=⟨_,rfl⟩
                 replace H : (if 0 ≤ x6_17 then (if x6_17 < (y479.length : Int) then (spec_NoCircle.l2 kj17 x3_2 x4_1 x5_2 (y479.set (x6_17 : Int).toNat 1) 0 l0_0 l0_1 l0_2) else (none)) else (none)) = some r:=by first|(rw [hy479];with_reducible exact H)|(have H2_:=(Option.bind_some _ _).symm.trans H;rw [hy479];with_reducible exact H2_)|(have H2_:=(Option.bind_some _ _).symm.trans H;with_reducible exact H2_)|with_reducible exact H|(rw [hy479];exact H)|exact H
                 have Ny479:=Aside0.mk hy479;clear hy479
                 by_cases c26 : 0 ≤ x6_17
                 ·
                  rw [if_pos c26] at H
                  have c26b0 : decide (0 ≤ x6_17) = true:=decide_eq_true c26;clear c26
                  by_cases c27 : x6_17 < (y479.length : Int)
                  ·
                   rw [if_pos c27] at H
                   have c27b0 : decide (x6_17 < (y479.length : Int)) = true:=decide_eq_true c27;clear c27
                   obtain ⟨y482,hy482⟩ : ∃ y_ : List Int,y_ = (y479.set (x6_17 : Int).toNat 1):=⟨_,rfl⟩
                   replace H : (spec_NoCircle.l2 kj17 x3_2 x4_1 x5_2 y482 0 l0_0 l0_1 l0_2) = some r:=by first|(rw [hy482];with_reducible exact H)|(have H2_:=(Option.bind_some _ _).symm.trans H;rw [hy482];with_reducible exact H2_)|(have H2_:=(Option.bind_some _ _).symm.trans H;with_reducible exact H2_)|with_reducible exact H|(rw [hy482];exact H)|exact H
                   have Ny482:=Aside0.mk hy482;clear hy482
                   have H':=Aside0.mk H;clear H
                   have hcz29_0 : wc.cell? ⟨gb471,0,none⟩ = some (.slice (some ad477) l0_0.length c0_0):=(blk_cell BK471.out 0).trans rfl
                   have hcz29_1 : wc.cell? ⟨gb471,1,none⟩ = some (.slice A0_1 l0_1.length c0_1):=(blk_cell BK471.out 1).trans rfl
                   have hcz29_2 : wc.cell? ⟨gb471,2,none⟩ = some (.slice A0_2 l0_2.length c0_2):=(blk_cell BK471.out 2).trans rfl
                   have hfz29_0:=blk_frozen BK471.out 0
                   have hfz29_1:=blk_frozen BK471.out 1
                   have hfz29_2:=blk_frozen BK471.out 2
                   go_wp2_with (first|((with_reducible refine gate_dst (N:=48) rfl ?_);refine Kd.R_make (Kd.int .i64) _ 3 rfl (N:=48) rfl 22 _ _ rfl (l0_0.length : Int) rfl rfl Tryd.underlying22 (.int .i64 0) 8 info3 rfl (by decide) (by omega) 0 (ok:=fun _ => True) (okp:=fun _ => True) rfl (fun _ hk => hk) trivial (of_decide_eq_true (by first|(with_reducible assumption)|assumption)) (Nat.le_trans (Nat.mul_le_mul_right _ (of_decide_eq_true (by first|(with_reducible assumption)|assumption) : (l0_0.length : Int).toNat ≤ 35184372088832)) (by omega)) (Below.refl _ _) (Nat.le_refl _) ?_;intro v480 w30 ho31 hb hg_ hnew_;clear hg_ hnew_;(first|rw [← Ny479.out] at ho31|(simp only [Int.reduceToNat] at ho31;rw [← Ny479.out] at ho31));have n0_:=Aside0.mk (Kd.R_elder' (rU HO_3.out) (Kd.R_base ho31) hb);have n1_:=Aside0.mk (Kd.R_lower (Kd.R_new' ho31 (Kd.R_lt (rU HO_3.out))) (below_size (by repeat (first|(with_reducible first|exact HB.out|apply below_alloc|apply pw_below_drewN|apply below_drew1|refine below_set ?_ GE471.out)|exact HB.out))));have n2_:=Aside0.mk (blk_below (g:=gb471) (o:=.cells #[.slice (some ad477) l0_0.length c0_0,.slice A0_1 l0_1.length c0_1,.slice A0_2 l0_2.length c0_2] 27 (0,0)) (blkU BK471.out) hb);have n3_:=Aside0.mk (below_step (by repeat (first|(with_reducible first|exact HB.out|apply below_alloc|apply pw_below_drewN|apply below_drew1|refine below_set ?_ GE471.out)|exact HB.out)) hb);clear HO_3 BK471 HB;have HO_3:=n0_;have HO481:=n1_;have BK471:=n2_;have HB:=n3_;clear n0_ n1_ n2_ n3_ hb ho31;have p28 : 0 ≤ (x6_17 : Int):=of_decide_eq_true (by first|(with_reducible assumption)|assumption);have q28 : (x6_17 : Int) < ((y479.length : Int) : Int):=of_decide_eq_true (by first|(with_reducible assumption)|assumption);obtain ⟨go28,co28,eo28,gb28,gl28,cl28,HG28⟩:=Kd.R_form HO481.out (by omega);(first|cases eo28|(injection eo28 with ea_ en_ ec_;(first|subst ea_|(injection ea_ with ea_;subst ea_));subst ec_;clear en_));have GB28:=Aside0.mk gb28;have GG28:=Aside0.mk HG28;clear gb28 gl28 HG28;obtain ⟨hx28_0,hf28_0⟩:=Kd.R_celln 0 HO481.out (x6_17 : Int) p28 q28;replace p28:=eq_true p28;replace q28:=eq_true q28;have n_:=Aside0.mk (Kd.R_mono (ok':=(fun k_ => some k_ ≠ (.slice (some ad476) x3_2.length co14 : Value).ownBlock)) HO481.out (fun k_ hk => hk.2));clear HO481;have HO481:=n_;clear n_;obtain ⟨hy32_,hz32_⟩:=Kd.R_celln 0 HO481.out (x6_17 : Int) (of_decide_eq_true (by first|(with_reducible assumption)|assumption)) (of_decide_eq_true (by first|(with_reducible assumption)|assumption));have HP32:=Kd.R_putg HO481.out (x6_17 : Int) 1)|((with_reducible refine gate_store (t:=3) (p:=51) rfl ?_);refine store_event (t:=3) (p:=51) (v:=?vo_w33) (w1:=(w30.setCell ⟨go28,(x6_17 : Int).toNat,none⟩ (.int .i64 1))) ?hg ?ho ?hn ?hr ?_;(case ho => rfl);(case hg => rfl);(case hn => rfl);(case hr => first|(go_simp;done)|(go_simp;rfl));intro w33 hw;have hg : w30.grownBy w33 (some go28):=(by rw [hw];exact HP32.2);have hp_ : Kd.R (Kd.int .i64) 3 w33 w.heap.size (fun k_ => some k_ ≠ (.slice (some ad476) x3_2.length co14 : Value).ownBlock) (.slice (some ⟨go28,0,none⟩) y479.length co28) y482:=(by rw [hw,Ny482.out];exact HP32.1);clear HP32;have n0_:=Aside0.mk (Kd.R_after (v:=(.slice (some ⟨go28,0,none⟩) y479.length co28)) (v1:=(.slice (some ⟨go28,0,none⟩) y479.length co28)) (ok:=(fun _ => True)) (rU HO_3.out) hg (.inl rfl));have n1_:=Aside0.mk (blk_grown (g:=gb471) (o:=.cells #[.slice (some ad477) l0_0.length c0_0,.slice A0_1 l0_1.length c0_1,.slice A0_2 l0_2.length c0_2] 27 (0,0)) (blkU BK471.out) hg (Kd.R_ne HO481.out BK471.out (by decide)));have n2_:=Aside0.mk (hp_);have n3_:=Aside0.mk ((by rw [hw];exact below_set (HB.out) GB28.out : Below w.heap.size w w33));clear HO_3 BK471 HO481 HB;have HO_3:=n0_;have BK471:=n1_;have HO481:=n2_;have HB:=n3_;clear n0_ n1_ n2_ n3_ hg hw hp_))
                   go_loopg [8] kj17 (fun kq v8 w' => ∃ (x7_4 : List Int) (x8_4 : Int),v8 = .int .i64 x8_4 ∧ Aside0 (spec_NoCircle.l2 kq x3_2 x4_1 x5_2 x7_4 x8_4 l0_0 l0_1 l0_2 = some r) ∧ Aside0 (kq ≤ kj17) ∧ Aside0 (Kd.R (Kd.int .i64) 3 w' w.heap.size (fun k_ => some k_ ≠ ((.slice (some ⟨go28,0,none⟩) y479.length co28) : Value).ownBlock) (.slice (some ad476) x3_2.length co14) x3_2) ∧ Aside0 (Kd.R (Kd.int .i64) 3 w' w.heap.size (fun k_ => some k_ ≠ ((.slice (some ad476) x3_2.length co14) : Value).ownBlock) (.slice (some ⟨go28,0,none⟩) y479.length co28) x7_4) ∧ Aside0 (w'.heap[gb471]? = some (.cells #[(.slice (some ad477) l0_0.length c0_0),(.slice A0_1 l0_1.length c0_1),(.slice A0_2 l0_2.length c0_2)] 27 (0,0))) ∧ Aside0 (Below w.heap.size w w'))
                   case atStart => exact ⟨(y482),(0),(by first|rfl|(simp;done)|(simp [*];done)),H',⟨Nat.le_refl _⟩,⟨by (try simp only [hl3_2]);(with_reducible repeat (first|apply Kd.R_alloc|apply Kd.R_drewN|apply Kd.R_drew));exact Kd.R_mono HO_3.out (fun _ hk => hk.2)⟩,⟨by (try simp only [hl3_2]);(with_reducible repeat (first|apply Kd.R_alloc|apply Kd.R_drewN|apply Kd.R_drew));exact HO481.out⟩,⟨by (try simp only [hl3_2]);(with_reducible repeat (first|refine blk_drewN ?_ _|refine blk_drew ?_|refine blk_alloc ?_ _));exact BK471.out⟩,⟨by repeat (first|(with_reducible first|exact HB.out|apply below_alloc|apply pw_below_drewN|apply below_drew1|refine below_set ?_ GE471.out)|exact HB.out)⟩⟩
                   case round =>
                    clear H'
                    try clear c1
                    try clear c2
                    try clear p2
                    try clear q2
                    try clear hx2
                    try clear hf2
                    try clear c3
                    try clear p4
                    try clear q4
                    try clear hx4
                    try clear p6
                    try clear c10
                    try clear c10b0
                    try clear c11
                    try clear c11b0
                    try clear c12
                    try clear c12b0
                    try clear c12b1
                    try clear c15
                    try clear c15b0
                    try clear c16
                    try clear c16b0
                    try clear c17
                    try clear c17b0
                    try clear c20
                    try clear c20b0
                    try clear c20b1
                    try clear c21
                    try clear c21b0
                    try clear c23
                    try clear c23b0
                    try clear c23b1
                    try clear c24
                    try clear c24b0
                    try clear c24b1
                    try clear c25
                    try clear c25b0
                    try clear c25b1
                    try clear c26
                    try clear c26b0
                    try clear c27
                    try clear c27b0
                    try clear p28
                    try clear q28
                    try clear hx28
                    try clear hf28
                    try clear c29
                    try clear hcz19_0
                    try clear hcz19_1
                    try clear hcz19_2
                    try clear hcz22_0
                    try clear hcz22_1
                    try clear hcz22_2
                    try clear hcz29_0
                    try clear hcz29_1
                    try clear hcz29_2
                    try clear hcz6_0
                    try clear hcz6_1
                    try clear hcz6_2
                    try clear hcz8_0
                    try clear hcz8_1
                    try clear hcz8_2
                    try clear hfz19_0
                    try clear hfz19_1
                    try clear hfz19_2
                    try clear hfz22_0
                    try clear hfz22_1
                    try clear hfz22_2
                    try clear hfz29_0
                    try clear hfz29_1
                    try clear hfz29_2
                    try clear hfz6_0
                    try clear hfz6_1
                    try clear hfz6_2
                    try clear hfz8_0
                    try clear hfz8_1
                    try clear hfz8_2
                    try clear hx28_0
                    try clear hx476_0
                    try clear hx477_0
                    try clear hx478_0
                    try clear p2
                    try clear p28
                    try clear p4
                    try clear p476
                    try clear p477
                    try clear p478
                    try clear p6
                    try clear q28
                    try clear q4
                    try clear q476
                    try clear q477
                    try clear q478
                    obtain ⟨x7_4,x8_4,rfl,HA,HK4,HO_3,HO_7,BK471,HB⟩:=hrel
                    have hl7_4:=(Kd.R_reads' HO_7.out).1
                    rw [hl7_4] at HO_7
                    (try simp only [hl7_4])
                    (try simp only [hl7_4] at BK471)
                    (try simp only [hl7_4] at HO_3)
                    cases gk with
                    | zero => exact absurd HA.out (by simp [spec_NoCircle.l2])
                    | succ k4 =>
                     have H:=HA.out;clear HA
                     simp only [spec_NoCircle.l2] at H
                     by_cases c34 : x8_4 < (x7_4.length : Int)
                     ·
                      rw [if_pos c34] at H
                      have c34b0 : decide (x8_4 < (x7_4.length : Int)) = true:=decide_eq_true c34;clear c34
                      have H':=Aside0.mk H;clear H
                      go_wp2
                      go_loopg [9] k4 (fun kq v9 w' => ∃ (x7_5 : List Int) (x9_5 : Int),v9 = .int .i64 x9_5 ∧ Aside0 (spec_NoCircle.l3 kq x3_2 x4_1 x5_2 x7_5 x8_4 x9_5 l0_0 l0_1 l0_2 = some r) ∧ Aside0 (kq ≤ k4) ∧ Aside0 (Kd.R (Kd.int .i64) 3 w' w.heap.size (fun k_ => some k_ ≠ ((.slice (some ⟨go28,0,none⟩) x7_4.length co28) : Value).ownBlock) (.slice (some ad476) x3_2.length co14) x3_2) ∧ Aside0 (Kd.R (Kd.int .i64) 3 w' w.heap.size (fun k_ => some k_ ≠ ((.slice (some ad476) x3_2.length co14) : Value).ownBlock) (.slice (some ⟨go28,0,none⟩) x7_4.length co28) x7_5) ∧ Aside0 (w'.heap[gb471]? = some (.cells #[(.slice (some ad477) l0_0.length c0_0),(.slice A0_1 l0_1.length c0_1),(.slice A0_2 l0_2.length c0_2)] 27 (0,0))) ∧ Aside0 (Below w.heap.size w w'))
                      case atStart => exact ⟨(x7_4),(0),(by first|rfl|(simp;done)|(simp [*];done)),H',⟨Nat.le_refl _⟩,⟨by (try simp only [hl3_2]);(try simp only [hl7_4]);(with_reducible repeat (first|apply Kd.R_alloc|apply Kd.R_drewN|apply Kd.R_drew));exact HO_3.out⟩,⟨by (try simp only [hl3_2]);(try simp only [hl7_4]);(with_reducible repeat (first|apply Kd.R_alloc|apply Kd.R_drewN|apply Kd.R_drew));exact HO_7.out⟩,⟨by (try simp only [hl3_2]);(try simp only [hl7_4]);(with_reducible repeat (first|refine blk_drewN ?_ _|refine blk_drew ?_|refine blk_alloc ?_ _));exact BK471.out⟩,⟨by repeat (first|(with_reducible first|exact HB.out|apply below_alloc|apply pw_below_drewN|apply below_drew1|refine below_set ?_ GE471.out)|exact HB.out)⟩⟩
                      case round =>
                       clear H'
                       try clear c1
                       try clear c2
                       try clear p2
                       try clear q2
                       try clear hx2
                       try clear hf2
                       try clear c3
                       try clear p4
                       try clear q4
                       try clear hx4
                       try clear p6
                       try clear c10
                       try clear c10b0
                       try clear c11
                       try clear c11b0
                       try clear c12
                       try clear c12b0
                       try clear c12b1
                       try clear c15
                       try clear c15b0
                       try clear c16
                       try clear c16b0
                       try clear c17
                       try clear c17b0
                       try clear c20
                       try clear c20b0
                       try clear c20b1
                       try clear c21
                       try clear c21b0
                       try clear c23
                       try clear c23b0
                       try clear c23b1
                       try clear c24
                       try clear c24b0
                       try clear c24b1
                       try clear c25
                       try clear c25b0
                       try clear c25b1
                       try clear c26
                       try clear c26b0
                       try clear c27
                       try clear c27b0
                       try clear p28
                       try clear q28
                       try clear hx28
                       try clear hf28
                       try clear c29
                       try clear c34
                       try clear c34b0
                       try clear hcz19_0
                       try clear hcz19_1
                       try clear hcz19_2
                       try clear hcz22_0
                       try clear hcz22_1
                       try clear hcz22_2
                       try clear hcz29_0
                       try clear hcz29_1
                       try clear hcz29_2
                       try clear hcz6_0
                       try clear hcz6_1
                       try clear hcz6_2
                       try clear hcz8_0
                       try clear hcz8_1
                       try clear hcz8_2
                       try clear hfz19_0
                       try clear hfz19_1
                       try clear hfz19_2
                       try clear hfz22_0
                       try clear hfz22_1
                       try clear hfz22_2
                       try clear hfz29_0
                       try clear hfz29_1
                       try clear hfz29_2
                       try clear hfz6_0
                       try clear hfz6_1
                       try clear hfz6_2
                       try clear hfz8_0
                       try clear hfz8_1
                       try clear hfz8_2
                       try clear hx28_0
                       try clear hx476_0
                       try clear hx477_0
                       try clear hx478_0
                       try clear p2
                       try clear p28
                       try clear p4
                       try clear p476
                       try clear p477
                       try clear p478
                       try clear p6
                       try clear q2
                       try clear q28
                       try clear q4
                       try clear q476
                       try clear q477
                       try clear q478
                       obtain ⟨x7_5,x9_5,rfl,HA,HK5,HO_3,HO_7,BK471,HB⟩:=hrel
                       have hl7_5:=(Kd.R_reads' HO_7.out).1
                       rw [hl7_5] at HO_7
                       (try simp only [hl7_5])
                       (try simp only [hl7_5] at BK471)
                       (try simp only [hl7_5] at HO_3)
                       cases gk with
                       | zero => exact absurd HA.out (by simp [spec_NoCircle.l3])
                       | succ k5 =>
                        have H:=HA.out;clear HA
                        simp only [spec_NoCircle.l3] at H
                        by_cases c35 : x9_5 < (x7_5.length : Int)
                        ·
                         rw [if_pos c35] at H
                         have c35b0 : decide (x9_5 < (x7_5.length : Int)) = true:=decide_eq_true c35;clear c35
                         by_cases c36 : 0 ≤ x9_5
                         ·
                          rw [if_pos c36] at H
                          have c36b0 : decide (0 ≤ x9_5) = true:=decide_eq_true c36;clear c36
                          by_cases c37 : (rd x7_5 x9_5) = 1
                          ·
                           rw [if_pos c37] at H
                           have c37b0 : ((rd x7_5 x9_5) == 1) = true:=beq_iff_eq.mpr c37
                           have c37b1 : ((rd x7_5 x9_5) != 1) = false:=bne_eq_false_iff_eq.mpr c37;clear c37
                           by_cases c38 : x9_5 < (l0_0.length : Int)
                           ·
                            rw [if_pos c38] at H
                            have c38b0 : decide (x9_5 < (l0_0.length : Int)) = true:=decide_eq_true c38;clear c38
                            by_cases c39 : 0 ≤ (rd l0_0 x9_5)
                            ·
                             rw [if_pos c39] at H
                             have c39b0 : decide (0 ≤ (rd l0_0 x9_5)) = true:=decide_eq_true c39;clear c39
                             by_cases c40 : (rd l0_0 x9_5) < (x7_5.length : Int)
                             ·
                              rw [if_pos c40] at H
                              have c40b0 : decide ((rd l0_0 x9_5) < (x7_5.length : Int)) = true:=decide_eq_true c40;clear c40
                              obtain ⟨y486,hy486⟩ : ∃ y_ : List Int,y_ = (x7_5.set ((rd l0_0 x9_5) : Int).toNat 1):=⟨_,rfl⟩
                              replace H : (if x9_5 < (l0_1.length : Int) then (if 0 ≤ (rd l0_1 x9_5) then (if (rd l0_1 x9_5) < (x7_5.length : Int) then (spec_NoCircle.l3 k5 x3_2 x4_1 x5_2 (y486.set ((rd l0_1 x9_5) : Int).toNat 1) x8_4 (wrap64 (x9_5 + 1)) l0_0 l0_1 l0_2) else (none)) else (none)) else (none)) = some r:=by first|(rw [hy486];with_reducible exact H)|(have H2_:=(Option.bind_some _ _).symm.trans H;rw [hy486];with_reducible exact H2_)|(have H2_:=(Option.bind_some _ _).symm.trans H;with_reducible exact H2_)|with_reducible exact H|(rw [hy486];exact H)|exact H
                              have Ny486:=Aside0.mk hy486;clear hy486
                              by_cases c42 : x9_5 < (l0_1.length : Int)
                              ·
                               rw [if_pos c42] at H
                               have c42b0 : decide (x9_5 < (l0_1.length : Int)) = true:=decide_eq_true c42;clear c42
                               by_cases c43 : 0 ≤ (rd l0_1 x9_5)
                               ·
                                rw [if_pos c43] at H
                                have c43b0 : decide (0 ≤ (rd l0_1 x9_5)) = true:=decide_eq_true c43;clear c43
                                by_cases c44 : (rd l0_1 x9_5) < (x7_5.length : Int)
                                ·
                                 rw [if_pos c44] at H
                                 have c44b0 : decide ((rd l0_1 x9_5) < (x7_5.length : Int)) = true:=decide_eq_true c44;clear c44
                                 obtain ⟨y488,hy488⟩ : ∃ y_ : List Int,y_ = (y486.set ((rd l0_1 x9_5) : Int).toNat 1):=⟨_,rfl⟩
                                 replace H : (spec_NoCircle.l3 k5 x3_2 x4_1 x5_2 y488 x8_4 (wrap64 (x9_5 + 1)) l0_0 l0_1 l0_2) = some r:=by first|(rw [hy488];with_reducible exact H)|(have H2_:=(Option.bind_some _ _).symm.trans H;rw [hy488];with_reducible exact H2_)|(have H2_:=(Option.bind_some _ _).symm.trans H;with_reducible exact H2_)|with_reducible exact H|(rw [hy488];exact H)|exact H
                                 have Ny488:=Aside0.mk hy488;clear hy488
                                 have H':=Aside0.mk H;clear H
                                 have p484 : 0 ≤ (x9_5 : Int):=of_decide_eq_true (by first|(with_reducible assumption)|assumption)
                                 have q484 : x9_5 < (x7_5.length : Int):=of_decide_eq_true (by first|(with_reducible assumption)|assumption)
                                 obtain ⟨ad484,e484,hx484_0⟩:=Kd.at_int (Kd.R_reads' HO_7.out).2.2 x9_5 p484 q484
                                 obtain rfl : (⟨go28,0,none⟩ : Addr) = ad484:=(by injection e484)
                                 (first|simp only [add_plain] at hx484_0|simp only [add_at] at hx484_0|simp only [Addr.add,Nat.zero_add] at hx484_0|skip)
                                 replace p484:=eq_true p484
                                 replace q484:=eq_true q484
                                 have hcz46_0 : wr.cell? ⟨gb471,0,none⟩ = some (.slice (some ad477) l0_0.length c0_0):=(blk_cell BK471.out 0).trans rfl
                                 have hcz46_1 : wr.cell? ⟨gb471,1,none⟩ = some (.slice A0_1 l0_1.length c0_1):=(blk_cell BK471.out 1).trans rfl
                                 have hcz46_2 : wr.cell? ⟨gb471,2,none⟩ = some (.slice A0_2 l0_2.length c0_2):=(blk_cell BK471.out 2).trans rfl
                                 have hfz46_0:=blk_frozen BK471.out 0
                                 have hfz46_1:=blk_frozen BK471.out 1
                                 have hfz46_2:=blk_frozen BK471.out 2
                                 have p485 : 0 ≤ (x9_5 : Int):=of_decide_eq_true (by first|(with_reducible assumption)|assumption)
                                 have q485 : x9_5 < (l0_0.length : Int):=of_decide_eq_true (by first|(with_reducible assumption)|assumption)
                                 obtain ⟨ad485,e485,hx485_0⟩:=Kd.at_int HR0_0.out x9_5 p485 q485
                                 obtain rfl : ad477 = ad485:=(by injection e485)
                                 replace hx485_0:=(HB.out.cell (World.block_lt_of_cell? w _ hx485_0)).trans hx485_0
                                 replace p485:=eq_true p485
                                 replace q485:=eq_true q485
                                 have p41 : 0 ≤ ((rd l0_0 x9_5) : Int):=of_decide_eq_true (by first|(with_reducible assumption)|assumption)
                                 have q41 : ((rd l0_0 x9_5) : Int) < ((x7_5.length : Int) : Int):=of_decide_eq_true (by first|(with_reducible assumption)|assumption)
                                 obtain ⟨hx41_0,hf41_0⟩:=Kd.R_celln 0 HO_7.out ((rd l0_0 x9_5) : Int) p41 q41
                                 replace p41:=eq_true p41
                                 replace q41:=eq_true q41
                                 have HP47:=Kd.R_putg HO_7.out ((rd l0_0 x9_5) : Int) 1
                                 go_wp2_with (first|((with_reducible refine gate_store (t:=3) (p:=75) rfl ?_);refine store_event (t:=3) (p:=75) (v:=?vo_w48) (w1:=(wr.setCell ⟨go28,((rd l0_0 x9_5) : Int).toNat,none⟩ (.int .i64 1))) ?hg ?ho ?hn ?hr ?_;(case ho => rfl);(case hg => rfl);(case hn => rfl);(case hr => first|(go_simp;done)|(go_simp;rfl));intro w48 hw;have hg : wr.grownBy w48 (some go28):=(by rw [hw];exact HP47.2);have hp_ : Kd.R (Kd.int .i64) 3 w48 w.heap.size (fun k_ => some k_ ≠ (.slice (some ad476) x3_2.length co14 : Value).ownBlock) (.slice (some ⟨go28,0,none⟩) x7_5.length co28) y486:=(by rw [hw,Ny486.out];exact HP47.1);clear HP47;have n0_:=Aside0.mk (Kd.R_after (v:=(.slice (some ⟨go28,0,none⟩) x7_5.length co28)) (v1:=(.slice (some ⟨go28,0,none⟩) x7_5.length co28)) (ok:=(fun _ => True)) (by (with_reducible repeat (first|apply Kd.R_alloc|apply Kd.R_drewN|apply Kd.R_drew));exact Kd.R_mono HO_3.out (fun _ hk => ⟨trivial,hk⟩)) hg (.inl rfl));have n1_:=Aside0.mk (hp_);have n2_:=Aside0.mk (blk_grown (g:=gb471) (o:=.cells #[.slice (some ad477) l0_0.length c0_0,.slice A0_1 l0_1.length c0_1,.slice A0_2 l0_2.length c0_2] 27 (0,0)) (blkU BK471.out) hg (Kd.R_ne HO_7.out BK471.out (by decide)));have n3_:=Aside0.mk ((by rw [hw];exact below_set (HB.out) GB28.out : Below w.heap.size w w48));clear HO_3 HO_7 BK471 HB;have HO_3:=n0_;have HO_7:=n1_;have BK471:=n2_;have HB:=n3_;clear n0_ n1_ n2_ n3_ hg hw hp_;have hcz49_0 : w48.cell? ⟨gb471,0,none⟩ = some (.slice (some ad477) l0_0.length c0_0):=(blk_cell BK471.out 0).trans rfl;have hcz49_1 : w48.cell? ⟨gb471,1,none⟩ = some (.slice A0_1 l0_1.length c0_1):=(blk_cell BK471.out 1).trans rfl;have hcz49_2 : w48.cell? ⟨gb471,2,none⟩ = some (.slice A0_2 l0_2.length c0_2):=(blk_cell BK471.out 2).trans rfl;have hfz49_0:=blk_frozen BK471.out 0;have hfz49_1:=blk_frozen BK471.out 1;have hfz49_2:=blk_frozen BK471.out 2;have p487 : 0 ≤ (x9_5 : Int):=of_decide_eq_true (by first|(with_reducible assumption)|assumption);have q487 : x9_5 < (l0_1.length : Int):=of_decide_eq_true (by first|(with_reducible assumption)|assumption);obtain ⟨ad487,e487,hx487_0⟩:=Kd.at_int HR0_1.out x9_5 p487 q487;cases e487;replace hx487_0:=(HB.out.cell (World.block_lt_of_cell? w _ hx487_0)).trans hx487_0;replace p487:=eq_true p487;replace q487:=eq_true q487;have p45 : 0 ≤ ((rd l0_1 x9_5) : Int):=of_decide_eq_true (by first|(with_reducible assumption)|assumption);have q45 : ((rd l0_1 x9_5) : Int) < ((x7_5.length : Int) : Int):=of_decide_eq_true (by first|(with_reducible assumption)|assumption);obtain ⟨hx45_0,hf45_0⟩:=Kd.R_celln 0 HO_7.out ((rd l0_1 x9_5) : Int) p45 q45;replace p45:=eq_true p45;replace q45:=eq_true q45;obtain ⟨hy50_,hz50_⟩:=Kd.R_celln 0 HO_7.out ((rd l0_1 x9_5) : Int) (of_decide_eq_true (by first|(with_reducible assumption)|assumption)) (of_decide_eq_true (by first|(with_reducible assumption)|assumption));have HP50:=Kd.R_putg HO_7.out ((rd l0_1 x9_5) : Int) 1)|((with_reducible refine gate_store (t:=3) (p:=82) rfl ?_);refine store_event (t:=3) (p:=82) (v:=?vo_w51) (w1:=(w48.setCell ⟨go28,((rd l0_1 x9_5) : Int).toNat,none⟩ (.int .i64 1))) ?hg ?ho ?hn ?hr ?_;(case ho => rfl);(case hg => rfl);(case hn => rfl);(case hr => first|(go_simp;done)|(go_simp;rfl));intro w51 hw;have hg : w48.grownBy w51 (some go28):=(by rw [hw];exact HP50.2);have hp_ : Kd.R (Kd.int .i64) 3 w51 w.heap.size (fun k_ => some k_ ≠ (.slice (some ad476) x3_2.length co14 : Value).ownBlock) (.slice (some ⟨go28,0,none⟩) x7_5.length co28) y488:=(by rw [hw,Ny488.out];exact HP50.1);clear HP50;have n0_:=Aside0.mk (Kd.R_after (v:=(.slice (some ⟨go28,0,none⟩) x7_5.length co28)) (v1:=(.slice (some ⟨go28,0,none⟩) x7_5.length co28)) (ok:=(fun _ => True)) (rU HO_3.out) hg (.inl rfl));have n1_:=Aside0.mk (hp_);have n2_:=Aside0.mk (blk_grown (g:=gb471) (o:=.cells #[.slice (some ad477) l0_0.length c0_0,.slice (some ad487) l0_1.length c0_1,.slice A0_2 l0_2.length c0_2] 27 (0,0)) (blkU BK471.out) hg (Kd.R_ne HO_7.out BK471.out (by decide)));have n3_:=Aside0.mk ((by rw [hw];exact below_set (HB.out) GB28.out : Below w.heap.size w w51));clear HO_3 HO_7 BK471 HB;have HO_3:=n0_;have HO_7:=n1_;have BK471:=n2_;have HB:=n3_;clear n0_ n1_ n2_ n3_ hg hw hp_))
                                 (try simp only [← hl7_5])
                                 go_roundg k5
                                 case measure => have:=HK1.out;have:=HK2.out;have:=HJ17.out;have:=HK4.out;have:=HK5.out;omega
                                 case rel => exact ⟨(y488),(wrap64 (x9_5 + 1)),(by first|rfl|(simp;done)|(simp [*];done)),H',⟨by have:=HK1.out;have:=HK2.out;have:=HJ17.out;have:=HK4.out;have:=HK5.out;omega⟩,⟨by (try simp only [hl3_2]);(try simp only [hl7_4]);(try simp only [hl7_5]);(with_reducible repeat (first|apply Kd.R_alloc|apply Kd.R_drewN|apply Kd.R_drew));exact Kd.R_mono HO_3.out (fun _ hk => hk.2)⟩,⟨by (try simp only [hl3_2]);(try simp only [hl7_4]);(try simp only [hl7_5]);(with_reducible repeat (first|apply Kd.R_alloc|apply Kd.R_drewN|apply Kd.R_drew));exact HO_7.out⟩,⟨by (try simp only [hl3_2]);(try simp only [hl7_4]);(try simp only [hl7_5]);(with_reducible repeat (first|refine blk_drewN ?_ _|refine blk_drew ?_|refine blk_alloc ?_ _));exact BK471.out⟩,⟨by repeat (first|(with_reducible first|exact HB.out|apply below_alloc|apply pw_below_drewN|apply below_drew1|refine below_set ?_ GE471.out)|exact HB.out)⟩⟩
                                ·
                                 rw [if_neg c44] at H
                                 exact absurd H (by simp)
                               ·
                                rw [if_neg c43] at H
                                exact absurd H (by simp)
                              ·
                               rw [if_neg c42] at H
                               exact absurd H (by simp)
                             ·
                              rw [if_neg c40] at H
                              exact absurd H (by simp)
                            ·
                             rw [if_neg c39] at H
                             exact absurd H (by simp)
                           ·
                            rw [if_neg c38] at H
                            exact absurd H (by simp)
                          ·
                           rw [if_neg c37] at H
                           have c37b0 : ((rd x7_5 x9_5) == 1) = false:=beq_eq_false_iff_ne.mpr c37
                           have c37b1 : ((rd x7_5 x9_5) != 1) = true:=bne_iff_ne.mpr c37
                           have H':=Aside0.mk H;clear H
                           have p484 : 0 ≤ (x9_5 : Int):=of_decide_eq_true (by first|(with_reducible assumption)|assumption)
                           have q484 : x9_5 < (x7_5.length : Int):=of_decide_eq_true (by first|(with_reducible assumption)|assumption)
                           obtain ⟨ad484,e484,hx484_0⟩:=Kd.at_int (Kd.R_reads' HO_7.out).2.2 x9_5 p484 q484
                           obtain rfl : (⟨go28,0,none⟩ : Addr) = ad484:=(by injection e484)
                           (first|simp only [add_plain] at hx484_0|simp only [add_at] at hx484_0|simp only [Addr.add,Nat.zero_add] at hx484_0|skip)
                           replace p484:=eq_true p484
                           replace q484:=eq_true q484
                           go_wp2
                           (try simp only [← hl7_5])
                           go_roundg k5
                           case measure => have:=HK1.out;have:=HK2.out;have:=HJ17.out;have:=HK4.out;have:=HK5.out;omega
                           case rel => exact ⟨(x7_5),(wrap64 (x9_5 + 1)),(by first|rfl|(simp;done)|(simp [*];done)),H',⟨by have:=HK1.out;have:=HK2.out;have:=HJ17.out;have:=HK4.out;have:=HK5.out;omega⟩,⟨by (try simp only [hl3_2]);(try simp only [hl7_4]);(try simp only [hl7_5]);(with_reducible repeat (first|apply Kd.R_alloc|apply Kd.R_drewN|apply Kd.R_drew));exact HO_3.out⟩,⟨by (try simp only [hl3_2]);(try simp only [hl7_4]);(try simp only [hl7_5]);(with_reducible repeat (first|apply Kd.R_alloc|apply Kd.R_drewN|apply Kd.R_drew));exact HO_7.out⟩,⟨by (try simp only [hl3_2]);(try simp only [hl7_4]);(try simp only [hl7_5]);(with_reducible repeat (first|refine blk_drewN ?_ _|refine blk_drew ?_|refine blk_alloc ?_ _));exact BK471.out⟩,⟨by repeat (first|(with_reducible first|exact HB.out|apply below_alloc|apply pw_below_drewN|apply below_drew1|refine below_set ?_ GE471.out)|exact HB.out)⟩⟩
                         ·
                          rw [if_neg c36] at H
                          exact absurd H (by simp)
                        ·
                         rw [if_neg c35] at H
                         have c35b0 : decide (x9_5 < (x7_5.length : Int)) = false:=decide_eq_false c35;clear c35
                         have H':=Aside0.mk H;clear H
                         go_wp2
                         (try simp only [← hl7_4,← hl7_5])
                         go_roundg k5
                         case measure => have:=HK1.out;have:=HK2.out;have:=HJ17.out;have:=HK4.out;have:=HK5.out;omega
                         case rel => exact ⟨(x7_5),(wrap64 (x8_4 + 1)),(by first|rfl|(simp;done)|(simp [*];done)),H',⟨by have:=HK1.out;have:=HK2.out;have:=HJ17.out;have:=HK4.out;have:=HK5.out;omega⟩,⟨by (try simp only [hl3_2]);(try simp only [hl7_4]);(try simp only [hl7_5]);(with_reducible repeat (first|apply Kd.R_alloc|apply Kd.R_drewN|apply Kd.R_drew));exact HO_3.out⟩,⟨by (try simp only [hl3_2]);(try simp only [hl7_4]);(try simp only [hl7_5]);(with_reducible repeat (first|apply Kd.R_alloc|apply Kd.R_drewN|apply Kd.R_drew));exact HO_7.out⟩,⟨by (try simp only [hl3_2]);(try simp only [hl7_4]);(try simp only [hl7_5]);(with_reducible repeat (first|refine blk_drewN ?_ _|refine blk_drew ?_|refine blk_alloc ?_ _));exact BK471.out⟩,⟨by repeat (first|(with_reducible first|exact HB.out|apply below_alloc|apply pw_below_drewN|apply below_drew1|refine below_set ?_ GE471.out)|exact HB.out)⟩⟩
                     ·
                      rw [if_neg c34] at H
                      have c34b0 : decide (x8_4 < (x7_4.length : Int)) = false:=decide_eq_false c34;clear c34
                      by_cases c52 : 0 ≤ x4_1
                      ·
                       rw [if_pos c52] at H
                       have c52b0 : decide (0 ≤ x4_1) = true:=decide_eq_true c52;clear c52
                       by_cases c53 : x4_1 < (x7_4.length : Int)
                       ·
                        rw [if_pos c53] at H
                        have c53b0 : decide (x4_1 < (x7_4.length : Int)) = true:=decide_eq_true c53;clear c53
                        by_cases c54 : (rd x7_4 x4_1) = 1
                        ·
                         rw [if_pos c54] at H
                         have c54b0 : ((rd x7_4 x4_1) == 1) = true:=beq_iff_eq.mpr c54
                         have c54b1 : ((rd x7_4 x4_1) != 1) = false:=bne_eq_false_iff_eq.mpr c54;clear c54
                         obtain rfl:=Option.some.inj H
                         have p483 : 0 ≤ (x4_1 : Int):=of_decide_eq_true (by first|(with_reducible assumption)|assumption)
                         have q483 : x4_1 < (x7_4.length : Int):=of_decide_eq_true (by first|(with_reducible assumption)|assumption)
                         obtain ⟨ad483,e483,hx483_0⟩:=Kd.at_int (Kd.R_reads' HO_7.out).2.2 x4_1 p483 q483
                         obtain rfl : (⟨go28,0,none⟩ : Addr) = ad483:=(by injection e483)
                         (first|simp only [add_plain] at hx483_0|simp only [add_at] at hx483_0|simp only [Addr.add,Nat.zero_add] at hx483_0|skip)
                         replace p483:=eq_true p483
                         replace q483:=eq_true q483
                         go_wp2
                         go_ret
                         exact ⟨by first|rfl|(simp [errW_none,errW_some] <;> rfl)|(simp [*,errW_none,errW_some] <;> rfl),by repeat (first|(with_reducible first|exact HB.out|apply below_alloc|apply pw_below_drewN|apply below_drew1|refine below_set ?_ GE471.out)|exact HB.out)⟩
                        ·
                         rw [if_neg c54] at H
                         have c54b0 : ((rd x7_4 x4_1) == 1) = false:=beq_eq_false_iff_ne.mpr c54
                         have c54b1 : ((rd x7_4 x4_1) != 1) = true:=bne_iff_ne.mpr c54
                         have H':=Aside0.mk H;clear H
                         have p483 : 0 ≤ (x4_1 : Int):=of_decide_eq_true (by first|(with_reducible assumption)|assumption)
                         have q483 : x4_1 < (x7_4.length : Int):=of_decide_eq_true (by first|(with_reducible assumption)|assumption)
                         obtain ⟨ad483,e483,hx483_0⟩:=Kd.at_int (Kd.R_reads' HO_7.out).2.2 x4_1 p483 q483
                         obtain rfl : (⟨go28,0,none⟩ : Addr) = ad483:=(by injection e483)
                         (first|simp only [add_plain] at hx483_0|simp only [add_at] at hx483_0|simp only [Addr.add,Nat.zero_add] at hx483_0|skip)
                         replace p483:=eq_true p483
                         replace q483:=eq_true q483
                         go_wp2
                         (try simp only [← hl3_2,← hl7_4])
                         go_roundg k4
                         case measure => have:=HK1.out;have:=HK2.out;have:=HJ17.out;have:=HK4.out;omega
                         case rel => exact ⟨(x3_2),(wrap64 (x5_2 + 1)),(by first|rfl|(simp;done)|(simp [*];done)),H',⟨by have:=HK1.out;have:=HK2.out;have:=HJ17.out;have:=HK4.out;omega⟩,⟨by (try simp only [hl3_2]);(try simp only [hl7_4]);(with_reducible repeat (first|apply Kd.R_alloc|apply Kd.R_drewN|apply Kd.R_drew));exact Kd.R_mono HO_3.out (fun _ hk => trivial)⟩,⟨by (try simp only [hl3_2]);(try simp only [hl7_4]);(with_reducible repeat (first|refine blk_drewN ?_ _|refine blk_drew ?_|refine blk_alloc ?_ _));exact BK471.out⟩,⟨by repeat (first|(with_reducible first|exact HB.out|apply below_alloc|apply pw_below_drewN|apply below_drew1|refine below_set ?_ GE471.out)|exact HB.out)⟩⟩
                       ·
                        rw [if_neg c53] at H
                        exact absurd H (by simp)
                      ·
                       rw [if_neg c52] at H
                       exact absurd H (by simp)
                  ·
                   rw [if_neg c27] at H
                   exact absurd H (by simp)
                 ·
                  rw [if_neg c26] at H
                  exact absurd H (by simp)
                ·
                 rw [if_neg c25] at H
                 exact absurd H (by simp)
               ·
                rw [if_neg c24] at H
                exact absurd H (by simp)
           ·
            rw [if_neg c17] at H
            exact absurd H (by simp)
          ·
           rw [if_neg c16] at H
           exact absurd H (by simp)
         ·
          rw [if_neg c15] at H
          have c15b0 : decide (x5_2 < 2) = false:=decide_eq_false c15;clear c15
          have H':=Aside0.mk H;clear H
          go_wp2
          (try simp only [← hl3_2])
          go_roundg k2
          case measure => have:=HK1.out;have:=HK2.out;omega
          case rel => exact ⟨(x3_2),(wrap64 (x4_1 + 1)),(by first|rfl|(simp;done)|(simp [*];done)),H',⟨by have:=HK1.out;have:=HK2.out;omega⟩,⟨by (try simp only [hl3_2]);(with_reducible repeat (first|apply Kd.R_alloc|apply Kd.R_drewN|apply Kd.R_drew));exact HO_3.out⟩,⟨by (try simp only [hl3_2]);(with_reducible repeat (first|refine blk_drewN ?_ _|refine blk_drew ?_|refine blk_alloc ?_ _));exact BK471.out⟩,⟨by repeat (first|(with_reducible first|exact HB.out|apply below_alloc|apply pw_below_drewN|apply below_drew1|refine below_set ?_ GE471.out)|exact HB.out)⟩⟩
     ·
      rw [if_neg c11] at H
      exact absurd H (by simp)
    ·
     rw [if_neg c10] at H
     have c10b0 : decide (x4_1 < (x3_1.length : Int)) = false:=decide_eq_false c10;clear c10
     obtain rfl:=Option.some.inj H
     obtain ⟨Ao55,co55,eo55⟩:=Kd.R_slice HO_3.out;subst eo55
     go_wp2
     go_ret
     exact ⟨by first|rfl|(simp [errW_none,errW_some] <;> rfl)|(simp [*,errW_none,errW_some] <;> rfl),by repeat (first|(with_reducible first|exact HB.out|apply below_alloc|apply pw_below_drewN|apply below_drew1|refine below_set ?_ GE471.out)|exact HB.out)⟩
 ·
  replace c3:=Bool.eq_false_iff.mpr c3;subst c3
  have H1 : (some false) = some r:=by rw [if_neg (show ¬ (false = true) by decide)] at H;exact H
  clear H;have H:=H1;clear H1
  obtain rfl:=Option.some.inj H
  go_enter Tryd.func12,Tryd.ntmps12
  go_wp2_with (first|((with_reducible refine gate_dst (N:=1) rfl ?_);refine box_event ?hg (N:=1) ?hd (cs:=#[.slice A0_0 l0_0.length c0_0,.slice A0_1 l0_1.length c0_1,.slice A0_2 l0_2.length c0_2]) (t:=27) ?hr ?_;(case hd => rfl);(case hg => rfl);(case hr => first|(go_simp;done)|(go_simp;rfl));intro gb471 hg w56 hbox hb;have n0_:=Aside0.mk (below_step (belU HB.out) hb);have n1_:=Aside0.mk (hbox);have n2_:=Aside0.mk ((by rw [hg];exact (below_size (belU HB.out)) : w.heap.size ≤ gb471));have n3_:=Aside0.mk ((by rw [hg];exact (below_size (belU HB.out)) : w.heap.size ≤ gb471));clear HB;have HB:=n0_;have BK471:=n1_;have GW471:=n2_;have GE471:=n3_;clear n0_ n1_ n2_ n3_ hb hbox hg;have hcz57_0 : w56.cell? ⟨gb471,0,none⟩ = some (.slice A0_0 l0_0.length c0_0):=(blk_cell BK471.out 0).trans rfl;have hcz57_1 : w56.cell? ⟨gb471,1,none⟩ = some (.slice A0_1 l0_1.length c0_1):=(blk_cell BK471.out 1).trans rfl;have hcz57_2 : w56.cell? ⟨gb471,2,none⟩ = some (.slice A0_2 l0_2.length c0_2):=(blk_cell BK471.out 2).trans rfl;have hfz57_0:=blk_frozen BK471.out 0;have hfz57_1:=blk_frozen BK471.out 1;have hfz57_2:=blk_frozen BK471.out 2)|((with_reducible refine gate_callee (f:=17) rfl ?_);refine goesL_ (some 11) rfl rfl Tryd.func17 (by kernel_rfl) rfl #[.agg #[.slice A0_0 l0_0.length c0_0,.slice A0_1 l0_1.length c0_1,.slice A0_2 l0_2.length c0_2]] rfl (by (try simp only [List.map_toArray,List.map_cons,List.map_nil]);first|done|rfl|(simp only [List.length_drop,List.length_take];rfl)) ?_;(with_reducible refine (spec_MachineOk.calls k _ _ l0_0 _ _ l0_1 _ _ l0_2 false _ ?side1 ?side2 ?side3 ?side4 ?side5 ?side6 A2.out).mono ?_);(case side1 => exact cU (Kd.C_below HR0_0.out HB.out));(case side2 => exact HC0_0.out);(case side3 => exact cU (Kd.C_below HR0_1.out HB.out));(case side4 => exact HC0_1.out);(case side5 => exact cU (Kd.C_below HR0_2.out HB.out));(case side6 => exact HC0_2.out);rintro e w58 ⟨rfl,hb⟩;refine ⟨_,rfl,?_⟩;have n0_:=Aside0.mk (blk_below (g:=gb471) (o:=.cells #[.slice A0_0 l0_0.length c0_0,.slice A0_1 l0_1.length c0_1,.slice A0_2 l0_2.length c0_2] 27 (0,0)) (blkU BK471.out) hb);have n1_:=Aside0.mk (below_step (by repeat (first|(with_reducible first|exact HB.out|apply below_alloc|apply pw_below_drewN|apply below_drew1|refine below_set ?_ GE471.out)|exact HB.out)) hb);clear BK471 HB;have BK471:=n0_;have HB:=n1_;clear n0_ n1_;(try clear hb);(try clear hb2);(try clear hk);(try clear hi)))
  go_ret
  exact ⟨by first|rfl|(simp [errW_none,errW_some] <;> rfl)|(simp [*,errW_none,errW_some] <;> rfl),by repeat (first|(with_reducible first|exact HB.out|apply below_alloc|apply pw_below_drewN|apply below_drew1|refine below_set ?_ GE471.out)|exact HB.out)⟩

end Go.Proofs.YtjfgbpmkboncnaaDoor.PA
