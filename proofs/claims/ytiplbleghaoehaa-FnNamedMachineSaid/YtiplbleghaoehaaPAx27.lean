/- The machine side of functions of this seat, written by the session's program myprint.py: for each Go function a Lean function and the proof that the call answers just it. -/
import Derived.Test.YtiplbleghaoehaaPAx0
import Derived.Test.YtiplbleghaoehaaUp
import Derived.Test.YtiplbleghaoehaaPAx21
import Derived.Test.YtiplbleghaoehaaPAx26
namespace Go.Proofs.Ytiplbleghaoehaa.PA
open Go.RowKit Go.Proofs.YtiplbleghaoehaaW.PrintWords Go.Proofs.YtiplbleghaoehaaW.PrintLast Go.Proofs.YtiplbleghaoehaaW.PrintMore
attribute [local go_sem] max2_int min2_int max_two min_two max_three min_three max_four min_four   -- for this text's walks alone
set_option linter.unusedVariables false
set_option linter.unusedSimpArgs false

/-! ### spec_AnyOrder: function 34 -/
def spec_AnyOrder.l0 : Nat → List Int → Int → List Int → List Int → List Int → Option (Bool)
 | 0,_,_,_,_,_ => none
 | k + 1,x3,x4,x506000,x506001,x506002 => if x4 < (x3.length : Int) then (if 0 ≤ x4 then (if (rd x3 x4) = 1 then (if x4 < (x506000.length : Int) then (if 0 ≤ (rd x506000 x4) then (if (rd x506000 x4) < (x506001.length : Int) then (if x4 < (x506001.length : Int) then (if 0 ≤ (rd x506001 x4) then (if (rd x506001 x4) < (x506000.length : Int) then (if (rd x506001 (rd x506000 x4)) = (rd x506000 (rd x506001 x4)) then (spec_AnyOrder.l0 k x3 (wrap64 (x4 + 1)) x506000 x506001 x506002) else (some false)) else (none)) else (none)) else (none)) else (none)) else (none)) else (none)) else (spec_AnyOrder.l0 k x3 (wrap64 (x4 + 1)) x506000 x506001 x506002)) else (none)) else (some true)
def spec_AnyOrder.f (k : Nat) (l0_0 : List Int) (l0_1 : List Int) (l0_2 : List Int) : Option (Bool):=(spec_MachineOk.f k l0_0 l0_1 l0_2).bind fun t506 => (if t506 = true then ((spec_l4Reached.f k l0_0 l0_1 l0_2).bind fun t507 => (spec_AnyOrder.l0 k t507 0 l0_0 l0_1 l0_2)) else (some false))
theorem spec_AnyOrder.mono_l : ∀ k,(∀ y0 y1 y2 y3 y4,LeO (spec_AnyOrder.l0 k y0 y1 y2 y3 y4) (spec_AnyOrder.l0 (k + 1) y0 y1 y2 y3 y4))
 | 0 => fun _ _ _ _ _ r h => by simp [spec_AnyOrder.l0] at h
 | k + 1 => by
  have ih0:=spec_AnyOrder.mono_l k
  ·
   intro y0 y1 y2 y3 y4
   unfold spec_AnyOrder.l0
   repeat' first
   | (with_reducible exact ih0 _ _ _ _ _)
   | (with_reducible exact spec_MachineOk.mono _ _ _ _)
   | (with_reducible exact spec_l4Reached.mono _ _ _ _)
   | (with_reducible exact LeO.refl _)
   | (with_reducible exact LeO.none _)
   | (with_reducible refine LeO.ite ?_ ?_)
   | (with_reducible refine LeO.bind ?_ (fun _ => ?_))
   | exact ih0 _ _ _ _ _
   | exact spec_MachineOk.mono _ _ _ _
   | exact spec_l4Reached.mono _ _ _ _
   | exact LeO.none _
   | refine LeO.ite ?_ ?_
   | refine LeO.bind ?_ (fun _ => ?_)
theorem spec_AnyOrder.mono : ∀ a0 a1 a2 k,LeO (spec_AnyOrder.f k a0 a1 a2) (spec_AnyOrder.f (k + 1) a0 a1 a2):=by
 intro a0 a1 a2 k
 have ih0:=spec_AnyOrder.mono_l k
 unfold spec_AnyOrder.f
 repeat' first
   | (with_reducible exact ih0 _ _ _ _ _)
   | (with_reducible exact spec_MachineOk.mono _ _ _ _)
   | (with_reducible exact spec_l4Reached.mono _ _ _ _)
   | (with_reducible exact LeO.refl _)
   | (with_reducible exact LeO.none _)
   | (with_reducible refine LeO.ite ?_ ?_)
   | (with_reducible refine LeO.bind ?_ (fun _ => ?_))
   | exact ih0 _ _ _ _ _
   | exact spec_MachineOk.mono _ _ _ _
   | exact spec_l4Reached.mono _ _ _ _
   | exact LeO.none _
   | refine LeO.ite ?_ ?_
   | refine LeO.bind ?_ (fun _ => ?_)
set_option maxHeartbeats 8000000 in
set_option maxRecDepth 100000 in
theorem spec_AnyOrder.calls (k : Nat) (A0_0 : Option Addr) (c0_0 : Nat) (l0_0 : List Int) (A0_1 : Option Addr) (c0_1 : Nat) (l0_1 : List Int) (A0_2 : Option Addr) (c0_2 : Nat) (l0_2 : List Int) (r : Bool) (w : World) (hr0_0 : Kd.C (Kd.int .i64) w A0_0 l0_0.length l0_0) (hc0_0 : l0_0.length ≤ c0_0) (hr0_1 : Kd.C (Kd.int .i64) w A0_1 l0_1.length l0_1) (hc0_1 : l0_1.length ≤ c0_1) (hr0_2 : Kd.C (Kd.int .i64) w A0_2 l0_2.length l0_2) (hc0_2 : l0_2.length ≤ c0_2) (h : spec_AnyOrder.f k l0_0 l0_1 l0_2 = some r) :
  Calls Try.prog 34 #[.agg #[.slice A0_0 l0_0.length c0_0,.slice A0_1 l0_1.length c0_1,.slice A0_2 l0_2.length c0_2]] w fun e w' => e = .returned (.bool r) ∧ Below w.heap.size w w':=by
 have hu26:=Try.underlying26
 have HR0_0:=Aside0.mk hr0_0
 have HC0_0:=Aside0.mk hc0_0;clear hr0_0 hc0_0
 have HR0_1:=Aside0.mk hr0_1
 have HC0_1:=Aside0.mk hc0_1;clear hr0_1 hc0_1
 have HR0_2:=Aside0.mk hr0_2
 have HC0_2:=Aside0.mk hc0_2;clear hr0_2 hc0_2;have HB:=Aside0.mk (Below.refl w.heap.size w)
 have H : ((spec_MachineOk.f k l0_0 l0_1 l0_2).bind fun t506 => (if t506 = true then ((spec_l4Reached.f k l0_0 l0_1 l0_2).bind fun t507 => (spec_AnyOrder.l0 k t507 0 l0_0 l0_1 l0_2)) else (some false))) = some r:=h;clear h
 replace H:=Option.bind_eq_some_iff.mp H
 obtain ⟨t506,A20,H⟩:=H
 replace H : (if t506 = true then ((spec_l4Reached.f k l0_0 l0_1 l0_2).bind fun t507 => (spec_AnyOrder.l0 k t507 0 l0_0 l0_1 l0_2)) else (some false)) = some r:=H
 have A2:=Aside0.mk A20;clear A20
 by_cases c3 : t506 = true
 ·
  subst c3
  have H1 : ((spec_l4Reached.f k l0_0 l0_1 l0_2).bind fun t507 => (spec_AnyOrder.l0 k t507 0 l0_0 l0_1 l0_2)) = some r:=by rw [if_pos rfl] at H;exact H
  clear H;have H:=H1;clear H1
  replace H:=Option.bind_eq_some_iff.mp H
  obtain ⟨t507,A40,H⟩:=H
  replace H : (spec_AnyOrder.l0 k t507 0 l0_0 l0_1 l0_2) = some r:=H
  have A4:=Aside0.mk A40;clear A40
  have H':=Aside0.mk H;clear H
  go_enter Try.func34,Try.ntmps34
  go_wp2_with (first|((with_reducible refine gate_dst (N:=1) rfl ?_);refine box_event ?hg (N:=1) ?hd (cs:=#[.slice A0_0 l0_0.length c0_0,.slice A0_1 l0_1.length c0_1,.slice A0_2 l0_2.length c0_2]) (t:=26) ?hr ?_;(case hd => rfl);(case hg => rfl);(case hr => first|(go_simp;done)|(go_simp;rfl));intro gb505 hg w5 hbox hb;have n0_:=Aside0.mk (below_step (belU HB.out) hb);have n1_:=Aside0.mk (hbox);have n2_:=Aside0.mk ((by rw [hg];exact (below_size (belU HB.out)) : w.heap.size ≤ gb505));have n3_:=Aside0.mk ((by rw [hg];exact (below_size (belU HB.out)) : w.heap.size ≤ gb505));clear HB;have HB:=n0_;have BK505:=n1_;have GW505:=n2_;have GE505:=n3_;clear n0_ n1_ n2_ n3_ hb hbox hg;have hcz6_0 : w5.cell? ⟨gb505,0,none⟩ = some (.slice A0_0 l0_0.length c0_0):=(blk_cell BK505.out 0).trans rfl;have hcz6_1 : w5.cell? ⟨gb505,1,none⟩ = some (.slice A0_1 l0_1.length c0_1):=(blk_cell BK505.out 1).trans rfl;have hcz6_2 : w5.cell? ⟨gb505,2,none⟩ = some (.slice A0_2 l0_2.length c0_2):=(blk_cell BK505.out 2).trans rfl;have hfz6_0:=blk_frozen BK505.out 0;have hfz6_1:=blk_frozen BK505.out 1;have hfz6_2:=blk_frozen BK505.out 2)|(go_at_call 61;(with_reducible refine (spec_MachineOk.calls k _ _ l0_0 _ _ l0_1 _ _ l0_2 true _ ?side1 ?side2 ?side3 ?side4 ?side5 ?side6 A2.out).mono ?_);(case side1 => exact cU (Kd.C_below HR0_0.out HB.out));(case side2 => exact HC0_0.out);(case side3 => exact cU (Kd.C_below HR0_1.out HB.out));(case side4 => exact HC0_1.out);(case side5 => exact cU (Kd.C_below HR0_2.out HB.out));(case side6 => exact HC0_2.out);rintro e w7 ⟨rfl,hb⟩;have n0_:=Aside0.mk (blk_below (g:=gb505) (o:=.cells #[.slice A0_0 l0_0.length c0_0,.slice A0_1 l0_1.length c0_1,.slice A0_2 l0_2.length c0_2] 26 (0,0)) (blkU BK505.out) hb);have n1_:=Aside0.mk (below_step (by repeat (first|(with_reducible first|exact HB.out|apply below_alloc|apply pw_below_drewN|apply below_drew1|refine below_set ?_ GE505.out)|exact HB.out)) hb);clear BK505 HB;have BK505:=n0_;have HB:=n1_;clear n0_ n1_;(try clear hb);(try clear hb2);(try clear hk);(try clear hi);have hcz8_0 : w7.cell? ⟨gb505,0,none⟩ = some (.slice A0_0 l0_0.length c0_0):=(blk_cell BK505.out 0).trans rfl;have hcz8_1 : w7.cell? ⟨gb505,1,none⟩ = some (.slice A0_1 l0_1.length c0_1):=(blk_cell BK505.out 1).trans rfl;have hcz8_2 : w7.cell? ⟨gb505,2,none⟩ = some (.slice A0_2 l0_2.length c0_2):=(blk_cell BK505.out 2).trans rfl;have hfz8_0:=blk_frozen BK505.out 0;have hfz8_1:=blk_frozen BK505.out 1;have hfz8_2:=blk_frozen BK505.out 2)|(go_at_call 62;(with_reducible refine (spec_l4Reached.calls k _ _ l0_0 _ _ l0_1 _ _ l0_2 t507 _ ?side1 ?side2 ?side3 ?side4 ?side5 ?side6 A4.out).mono ?_);(case side1 => exact cU (Kd.C_below HR0_0.out HB.out));(case side2 => exact HC0_0.out);(case side3 => exact cU (Kd.C_below HR0_1.out HB.out));(case side4 => exact HC0_1.out);(case side5 => exact cU (Kd.C_below HR0_2.out HB.out));(case side6 => exact HC0_2.out);rintro e w9 ⟨v508,rfl,ho0,hb⟩;have n0_:=Aside0.mk (Kd.R_lower ho0 (below_size (by repeat (first|(with_reducible first|exact HB.out|apply below_alloc|apply pw_below_drewN|apply below_drew1|refine below_set ?_ GE505.out)|exact HB.out))));have n1_:=Aside0.mk (blk_below (g:=gb505) (o:=.cells #[.slice A0_0 l0_0.length c0_0,.slice A0_1 l0_1.length c0_1,.slice A0_2 l0_2.length c0_2] 26 (0,0)) (blkU BK505.out) hb);have n2_:=Aside0.mk (below_step (by repeat (first|(with_reducible first|exact HB.out|apply below_alloc|apply pw_below_drewN|apply below_drew1|refine below_set ?_ GE505.out)|exact HB.out)) hb);clear BK505 HB;have HO509:=n0_;have BK505:=n1_;have HB:=n2_;clear n0_ n1_ n2_;(try clear hb);(try clear hb2);(try clear hk);(try clear hi);(try clear ho0)))
  repeat (go_quiet (first|((with_reducible refine gate_dst (N:=1) rfl ?_);refine box_event ?hg (N:=1) ?hd (cs:=#[.slice A0_0 l0_0.length c0_0,.slice A0_1 l0_1.length c0_1,.slice A0_2 l0_2.length c0_2]) (t:=26) ?hr ?_;(case hd => rfl);(case hg => rfl);(case hr => first|(go_simp;done)|(go_simp;rfl));intro gb505 hg w5 hbox hb;have n0_:=Aside0.mk (below_step (belU HB.out) hb);have n1_:=Aside0.mk (hbox);have n2_:=Aside0.mk ((by rw [hg];exact (below_size (belU HB.out)) : w.heap.size ≤ gb505));have n3_:=Aside0.mk ((by rw [hg];exact (below_size (belU HB.out)) : w.heap.size ≤ gb505));clear HB;have HB:=n0_;have BK505:=n1_;have GW505:=n2_;have GE505:=n3_;clear n0_ n1_ n2_ n3_ hb hbox hg;have hcz6_0 : w5.cell? ⟨gb505,0,none⟩ = some (.slice A0_0 l0_0.length c0_0):=(blk_cell BK505.out 0).trans rfl;have hcz6_1 : w5.cell? ⟨gb505,1,none⟩ = some (.slice A0_1 l0_1.length c0_1):=(blk_cell BK505.out 1).trans rfl;have hcz6_2 : w5.cell? ⟨gb505,2,none⟩ = some (.slice A0_2 l0_2.length c0_2):=(blk_cell BK505.out 2).trans rfl;have hfz6_0:=blk_frozen BK505.out 0;have hfz6_1:=blk_frozen BK505.out 1;have hfz6_2:=blk_frozen BK505.out 2)|(go_at_call 61;(with_reducible refine (spec_MachineOk.calls k _ _ l0_0 _ _ l0_1 _ _ l0_2 true _ ?side1 ?side2 ?side3 ?side4 ?side5 ?side6 A2.out).mono ?_);(case side1 => exact cU (Kd.C_below HR0_0.out HB.out));(case side2 => exact HC0_0.out);(case side3 => exact cU (Kd.C_below HR0_1.out HB.out));(case side4 => exact HC0_1.out);(case side5 => exact cU (Kd.C_below HR0_2.out HB.out));(case side6 => exact HC0_2.out);rintro e w7 ⟨rfl,hb⟩;have n0_:=Aside0.mk (blk_below (g:=gb505) (o:=.cells #[.slice A0_0 l0_0.length c0_0,.slice A0_1 l0_1.length c0_1,.slice A0_2 l0_2.length c0_2] 26 (0,0)) (blkU BK505.out) hb);have n1_:=Aside0.mk (below_step (by repeat (first|(with_reducible first|exact HB.out|apply below_alloc|apply pw_below_drewN|apply below_drew1|refine below_set ?_ GE505.out)|exact HB.out)) hb);clear BK505 HB;have BK505:=n0_;have HB:=n1_;clear n0_ n1_;(try clear hb);(try clear hb2);(try clear hk);(try clear hi);have hcz8_0 : w7.cell? ⟨gb505,0,none⟩ = some (.slice A0_0 l0_0.length c0_0):=(blk_cell BK505.out 0).trans rfl;have hcz8_1 : w7.cell? ⟨gb505,1,none⟩ = some (.slice A0_1 l0_1.length c0_1):=(blk_cell BK505.out 1).trans rfl;have hcz8_2 : w7.cell? ⟨gb505,2,none⟩ = some (.slice A0_2 l0_2.length c0_2):=(blk_cell BK505.out 2).trans rfl;have hfz8_0:=blk_frozen BK505.out 0;have hfz8_1:=blk_frozen BK505.out 1;have hfz8_2:=blk_frozen BK505.out 2)|(go_at_call 62;(with_reducible refine (spec_l4Reached.calls k _ _ l0_0 _ _ l0_1 _ _ l0_2 t507 _ ?side1 ?side2 ?side3 ?side4 ?side5 ?side6 A4.out).mono ?_);(case side1 => exact cU (Kd.C_below HR0_0.out HB.out));(case side2 => exact HC0_0.out);(case side3 => exact cU (Kd.C_below HR0_1.out HB.out));(case side4 => exact HC0_1.out);(case side5 => exact cU (Kd.C_below HR0_2.out HB.out));(case side6 => exact HC0_2.out);rintro e w9 ⟨v508,rfl,ho0,hb⟩;have n0_:=Aside0.mk (Kd.R_lower ho0 (below_size (by repeat (first|(with_reducible first|exact HB.out|apply below_alloc|apply pw_below_drewN|apply below_drew1|refine below_set ?_ GE505.out)|exact HB.out))));have n1_:=Aside0.mk (blk_below (g:=gb505) (o:=.cells #[.slice A0_0 l0_0.length c0_0,.slice A0_1 l0_1.length c0_1,.slice A0_2 l0_2.length c0_2] 26 (0,0)) (blkU BK505.out) hb);have n2_:=Aside0.mk (below_step (by repeat (first|(with_reducible first|exact HB.out|apply below_alloc|apply pw_below_drewN|apply below_drew1|refine below_set ?_ GE505.out)|exact HB.out)) hb);clear BK505 HB;have HO509:=n0_;have BK505:=n1_;have HB:=n2_;clear n0_ n1_ n2_;(try clear hb);(try clear hb2);(try clear hk);(try clear hi);(try clear ho0)));try go_wp2_with (first|((with_reducible refine gate_dst (N:=1) rfl ?_);refine box_event ?hg (N:=1) ?hd (cs:=#[.slice A0_0 l0_0.length c0_0,.slice A0_1 l0_1.length c0_1,.slice A0_2 l0_2.length c0_2]) (t:=26) ?hr ?_;(case hd => rfl);(case hg => rfl);(case hr => first|(go_simp;done)|(go_simp;rfl));intro gb505 hg w5 hbox hb;have n0_:=Aside0.mk (below_step (belU HB.out) hb);have n1_:=Aside0.mk (hbox);have n2_:=Aside0.mk ((by rw [hg];exact (below_size (belU HB.out)) : w.heap.size ≤ gb505));have n3_:=Aside0.mk ((by rw [hg];exact (below_size (belU HB.out)) : w.heap.size ≤ gb505));clear HB;have HB:=n0_;have BK505:=n1_;have GW505:=n2_;have GE505:=n3_;clear n0_ n1_ n2_ n3_ hb hbox hg;have hcz6_0 : w5.cell? ⟨gb505,0,none⟩ = some (.slice A0_0 l0_0.length c0_0):=(blk_cell BK505.out 0).trans rfl;have hcz6_1 : w5.cell? ⟨gb505,1,none⟩ = some (.slice A0_1 l0_1.length c0_1):=(blk_cell BK505.out 1).trans rfl;have hcz6_2 : w5.cell? ⟨gb505,2,none⟩ = some (.slice A0_2 l0_2.length c0_2):=(blk_cell BK505.out 2).trans rfl;have hfz6_0:=blk_frozen BK505.out 0;have hfz6_1:=blk_frozen BK505.out 1;have hfz6_2:=blk_frozen BK505.out 2)|(go_at_call 61;(with_reducible refine (spec_MachineOk.calls k _ _ l0_0 _ _ l0_1 _ _ l0_2 true _ ?side1 ?side2 ?side3 ?side4 ?side5 ?side6 A2.out).mono ?_);(case side1 => exact cU (Kd.C_below HR0_0.out HB.out));(case side2 => exact HC0_0.out);(case side3 => exact cU (Kd.C_below HR0_1.out HB.out));(case side4 => exact HC0_1.out);(case side5 => exact cU (Kd.C_below HR0_2.out HB.out));(case side6 => exact HC0_2.out);rintro e w7 ⟨rfl,hb⟩;have n0_:=Aside0.mk (blk_below (g:=gb505) (o:=.cells #[.slice A0_0 l0_0.length c0_0,.slice A0_1 l0_1.length c0_1,.slice A0_2 l0_2.length c0_2] 26 (0,0)) (blkU BK505.out) hb);have n1_:=Aside0.mk (below_step (by repeat (first|(with_reducible first|exact HB.out|apply below_alloc|apply pw_below_drewN|apply below_drew1|refine below_set ?_ GE505.out)|exact HB.out)) hb);clear BK505 HB;have BK505:=n0_;have HB:=n1_;clear n0_ n1_;(try clear hb);(try clear hb2);(try clear hk);(try clear hi);have hcz8_0 : w7.cell? ⟨gb505,0,none⟩ = some (.slice A0_0 l0_0.length c0_0):=(blk_cell BK505.out 0).trans rfl;have hcz8_1 : w7.cell? ⟨gb505,1,none⟩ = some (.slice A0_1 l0_1.length c0_1):=(blk_cell BK505.out 1).trans rfl;have hcz8_2 : w7.cell? ⟨gb505,2,none⟩ = some (.slice A0_2 l0_2.length c0_2):=(blk_cell BK505.out 2).trans rfl;have hfz8_0:=blk_frozen BK505.out 0;have hfz8_1:=blk_frozen BK505.out 1;have hfz8_2:=blk_frozen BK505.out 2)|(go_at_call 62;(with_reducible refine (spec_l4Reached.calls k _ _ l0_0 _ _ l0_1 _ _ l0_2 t507 _ ?side1 ?side2 ?side3 ?side4 ?side5 ?side6 A4.out).mono ?_);(case side1 => exact cU (Kd.C_below HR0_0.out HB.out));(case side2 => exact HC0_0.out);(case side3 => exact cU (Kd.C_below HR0_1.out HB.out));(case side4 => exact HC0_1.out);(case side5 => exact cU (Kd.C_below HR0_2.out HB.out));(case side6 => exact HC0_2.out);rintro e w9 ⟨v508,rfl,ho0,hb⟩;have n0_:=Aside0.mk (Kd.R_lower ho0 (below_size (by repeat (first|(with_reducible first|exact HB.out|apply below_alloc|apply pw_below_drewN|apply below_drew1|refine below_set ?_ GE505.out)|exact HB.out))));have n1_:=Aside0.mk (blk_below (g:=gb505) (o:=.cells #[.slice A0_0 l0_0.length c0_0,.slice A0_1 l0_1.length c0_1,.slice A0_2 l0_2.length c0_2] 26 (0,0)) (blkU BK505.out) hb);have n2_:=Aside0.mk (below_step (by repeat (first|(with_reducible first|exact HB.out|apply below_alloc|apply pw_below_drewN|apply below_drew1|refine below_set ?_ GE505.out)|exact HB.out)) hb);clear BK505 HB;have HO509:=n0_;have BK505:=n1_;have HB:=n2_;clear n0_ n1_ n2_;(try clear hb);(try clear hb2);(try clear hk);(try clear hi);(try clear ho0))))
  go_loopg [4] k (fun kq v4 w' => ∃ (x4_1 : Int),v4 = .int .i64 x4_1 ∧ Aside0 (spec_AnyOrder.l0 kq t507 x4_1 l0_0 l0_1 l0_2 = some r) ∧ Aside0 (kq ≤ k) ∧ Aside0 (Kd.R (Kd.int .i64) 3 w' w.heap.size (fun _ => True) v508 t507) ∧ Aside0 (w'.heap[gb505]? = some (.cells #[(.slice A0_0 l0_0.length c0_0),(.slice A0_1 l0_1.length c0_1),(.slice A0_2 l0_2.length c0_2)] 26 (0,0))) ∧ Aside0 (Below w.heap.size w w'))
  case atStart => exact ⟨(0),(by first|rfl|(simp;done)|(simp [*];done)),H',⟨Nat.le_refl _⟩,⟨rU HO509.out⟩,⟨blkU BK505.out⟩,⟨by repeat (first|(with_reducible first|exact HB.out|apply below_alloc|apply pw_below_drewN|apply below_drew1|refine below_set ?_ GE505.out)|exact HB.out)⟩⟩
  case round =>
   clear H'
   try clear p2
   try clear c3
   try clear hcz6_0
   try clear hcz6_1
   try clear hcz6_2
   try clear hcz8_0
   try clear hcz8_1
   try clear hcz8_2
   try clear hfz6_0
   try clear hfz6_1
   try clear hfz6_2
   try clear hfz8_0
   try clear hfz8_1
   try clear hfz8_2
   obtain ⟨x4_1,rfl,HA,HK1,HO_3,BK505,HB⟩:=hrel
   cases gk with
   | zero => exact absurd HA.out (by simp [spec_AnyOrder.l0])
   | succ k1 =>
    have H:=HA.out;clear HA
    simp only [spec_AnyOrder.l0] at H
    by_cases c10 : x4_1 < (t507.length : Int)
    ·
     rw [if_pos c10] at H
     have c10b0 : decide (x4_1 < (t507.length : Int)) = true:=decide_eq_true c10;clear c10
     by_cases c11 : 0 ≤ x4_1
     ·
      rw [if_pos c11] at H
      have c11b0 : decide (0 ≤ x4_1) = true:=decide_eq_true c11;clear c11
      by_cases c12 : (rd t507 x4_1) = 1
      ·
       rw [if_pos c12] at H
       have c12b0 : ((rd t507 x4_1) == 1) = true:=beq_iff_eq.mpr c12
       have c12b1 : ((rd t507 x4_1) != 1) = false:=bne_eq_false_iff_eq.mpr c12;clear c12
       by_cases c13 : x4_1 < (l0_0.length : Int)
       ·
        rw [if_pos c13] at H
        have c13b0 : decide (x4_1 < (l0_0.length : Int)) = true:=decide_eq_true c13;clear c13
        by_cases c14 : 0 ≤ (rd l0_0 x4_1)
        ·
         rw [if_pos c14] at H
         have c14b0 : decide (0 ≤ (rd l0_0 x4_1)) = true:=decide_eq_true c14;clear c14
         by_cases c15 : (rd l0_0 x4_1) < (l0_1.length : Int)
         ·
          rw [if_pos c15] at H
          have c15b0 : decide ((rd l0_0 x4_1) < (l0_1.length : Int)) = true:=decide_eq_true c15;clear c15
          by_cases c16 : x4_1 < (l0_1.length : Int)
          ·
           rw [if_pos c16] at H
           have c16b0 : decide (x4_1 < (l0_1.length : Int)) = true:=decide_eq_true c16;clear c16
           by_cases c17 : 0 ≤ (rd l0_1 x4_1)
           ·
            rw [if_pos c17] at H
            have c17b0 : decide (0 ≤ (rd l0_1 x4_1)) = true:=decide_eq_true c17;clear c17
            by_cases c18 : (rd l0_1 x4_1) < (l0_0.length : Int)
            ·
             rw [if_pos c18] at H
             have c18b0 : decide ((rd l0_1 x4_1) < (l0_0.length : Int)) = true:=decide_eq_true c18;clear c18
             by_cases c19 : (rd l0_1 (rd l0_0 x4_1)) = (rd l0_0 (rd l0_1 x4_1))
             ·
              rw [if_pos c19] at H
              have c19b0 : ((rd l0_1 (rd l0_0 x4_1)) == (rd l0_0 (rd l0_1 x4_1))) = true:=beq_iff_eq.mpr c19
              have c19b1 : ((rd l0_1 (rd l0_0 x4_1)) != (rd l0_0 (rd l0_1 x4_1))) = false:=bne_eq_false_iff_eq.mpr c19;clear c19
              have H':=Aside0.mk H;clear H
              obtain ⟨Ao20,co20,eo20⟩:=Kd.R_slice HO_3.out;subst eo20
              have p510 : 0 ≤ (x4_1 : Int):=of_decide_eq_true (by first|(with_reducible assumption)|assumption)
              have q510 : x4_1 < (t507.length : Int):=of_decide_eq_true (by first|(with_reducible assumption)|assumption)
              obtain ⟨ad510,e510,hx510_0⟩:=Kd.at_int (Kd.R_reads' HO_3.out).2.2 x4_1 p510 q510
              cases e510
              replace p510:=eq_true p510
              replace q510:=eq_true q510
              have hcz21_0 : wr.cell? ⟨gb505,0,none⟩ = some (.slice A0_0 l0_0.length c0_0):=(blk_cell BK505.out 0).trans rfl
              have hcz21_1 : wr.cell? ⟨gb505,1,none⟩ = some (.slice A0_1 l0_1.length c0_1):=(blk_cell BK505.out 1).trans rfl
              have hcz21_2 : wr.cell? ⟨gb505,2,none⟩ = some (.slice A0_2 l0_2.length c0_2):=(blk_cell BK505.out 2).trans rfl
              have hfz21_0:=blk_frozen BK505.out 0
              have hfz21_1:=blk_frozen BK505.out 1
              have hfz21_2:=blk_frozen BK505.out 2
              have p511 : 0 ≤ (x4_1 : Int):=of_decide_eq_true (by first|(with_reducible assumption)|assumption)
              have q511 : x4_1 < (l0_0.length : Int):=of_decide_eq_true (by first|(with_reducible assumption)|assumption)
              obtain ⟨ad511,e511,hx511_0⟩:=Kd.at_int HR0_0.out x4_1 p511 q511
              cases e511
              replace hx511_0:=(HB.out.cell (World.block_lt_of_cell? w _ hx511_0)).trans hx511_0
              replace p511:=eq_true p511
              replace q511:=eq_true q511
              have p512 : 0 ≤ ((rd l0_0 x4_1) : Int):=of_decide_eq_true (by first|(with_reducible assumption)|assumption)
              have q512 : (rd l0_0 x4_1) < (l0_1.length : Int):=of_decide_eq_true (by first|(with_reducible assumption)|assumption)
              obtain ⟨ad512,e512,hx512_0⟩:=Kd.at_int HR0_1.out (rd l0_0 x4_1) p512 q512
              cases e512
              replace hx512_0:=(HB.out.cell (World.block_lt_of_cell? w _ hx512_0)).trans hx512_0
              replace p512:=eq_true p512
              replace q512:=eq_true q512
              have p513 : 0 ≤ (x4_1 : Int):=of_decide_eq_true (by first|(with_reducible assumption)|assumption)
              have q513 : x4_1 < (l0_1.length : Int):=of_decide_eq_true (by first|(with_reducible assumption)|assumption)
              obtain ⟨ad513,e513,hx513_0⟩:=Kd.at_int HR0_1.out x4_1 p513 q513
              obtain rfl : ad512 = ad513:=(by injection e513)
              replace hx513_0:=(HB.out.cell (World.block_lt_of_cell? w _ hx513_0)).trans hx513_0
              replace p513:=eq_true p513
              replace q513:=eq_true q513
              have p514 : 0 ≤ ((rd l0_1 x4_1) : Int):=of_decide_eq_true (by first|(with_reducible assumption)|assumption)
              have q514 : (rd l0_1 x4_1) < (l0_0.length : Int):=of_decide_eq_true (by first|(with_reducible assumption)|assumption)
              obtain ⟨ad514,e514,hx514_0⟩:=Kd.at_int HR0_0.out (rd l0_1 x4_1) p514 q514
              obtain rfl : ad511 = ad514:=(by injection e514)
              replace hx514_0:=(HB.out.cell (World.block_lt_of_cell? w _ hx514_0)).trans hx514_0
              replace p514:=eq_true p514
              replace q514:=eq_true q514
              go_wp2
              repeat (go_quiet (fail);try go_wp2)
              go_roundg k1
              case measure => have:=HK1.out;omega
              case rel => exact ⟨(wrap64 (x4_1 + 1)),(by first|rfl|(simp;done)|(simp [*];done)),H',⟨by have:=HK1.out;omega⟩,⟨rU HO_3.out⟩,⟨blkU BK505.out⟩,⟨by repeat (first|(with_reducible first|exact HB.out|apply below_alloc|apply pw_below_drewN|apply below_drew1|refine below_set ?_ GE505.out)|exact HB.out)⟩⟩
             ·
              rw [if_neg c19] at H
              have c19b0 : ((rd l0_1 (rd l0_0 x4_1)) == (rd l0_0 (rd l0_1 x4_1))) = false:=beq_eq_false_iff_ne.mpr c19
              have c19b1 : ((rd l0_1 (rd l0_0 x4_1)) != (rd l0_0 (rd l0_1 x4_1))) = true:=bne_iff_ne.mpr c19
              obtain rfl:=Option.some.inj H
              obtain ⟨Ao22,co22,eo22⟩:=Kd.R_slice HO_3.out;subst eo22
              have p510 : 0 ≤ (x4_1 : Int):=of_decide_eq_true (by first|(with_reducible assumption)|assumption)
              have q510 : x4_1 < (t507.length : Int):=of_decide_eq_true (by first|(with_reducible assumption)|assumption)
              obtain ⟨ad510,e510,hx510_0⟩:=Kd.at_int (Kd.R_reads' HO_3.out).2.2 x4_1 p510 q510
              cases e510
              replace p510:=eq_true p510
              replace q510:=eq_true q510
              have hcz23_0 : wr.cell? ⟨gb505,0,none⟩ = some (.slice A0_0 l0_0.length c0_0):=(blk_cell BK505.out 0).trans rfl
              have hcz23_1 : wr.cell? ⟨gb505,1,none⟩ = some (.slice A0_1 l0_1.length c0_1):=(blk_cell BK505.out 1).trans rfl
              have hcz23_2 : wr.cell? ⟨gb505,2,none⟩ = some (.slice A0_2 l0_2.length c0_2):=(blk_cell BK505.out 2).trans rfl
              have hfz23_0:=blk_frozen BK505.out 0
              have hfz23_1:=blk_frozen BK505.out 1
              have hfz23_2:=blk_frozen BK505.out 2
              have p511 : 0 ≤ (x4_1 : Int):=of_decide_eq_true (by first|(with_reducible assumption)|assumption)
              have q511 : x4_1 < (l0_0.length : Int):=of_decide_eq_true (by first|(with_reducible assumption)|assumption)
              obtain ⟨ad511,e511,hx511_0⟩:=Kd.at_int HR0_0.out x4_1 p511 q511
              cases e511
              replace hx511_0:=(HB.out.cell (World.block_lt_of_cell? w _ hx511_0)).trans hx511_0
              replace p511:=eq_true p511
              replace q511:=eq_true q511
              have p512 : 0 ≤ ((rd l0_0 x4_1) : Int):=of_decide_eq_true (by first|(with_reducible assumption)|assumption)
              have q512 : (rd l0_0 x4_1) < (l0_1.length : Int):=of_decide_eq_true (by first|(with_reducible assumption)|assumption)
              obtain ⟨ad512,e512,hx512_0⟩:=Kd.at_int HR0_1.out (rd l0_0 x4_1) p512 q512
              cases e512
              replace hx512_0:=(HB.out.cell (World.block_lt_of_cell? w _ hx512_0)).trans hx512_0
              replace p512:=eq_true p512
              replace q512:=eq_true q512
              have p513 : 0 ≤ (x4_1 : Int):=of_decide_eq_true (by first|(with_reducible assumption)|assumption)
              have q513 : x4_1 < (l0_1.length : Int):=of_decide_eq_true (by first|(with_reducible assumption)|assumption)
              obtain ⟨ad513,e513,hx513_0⟩:=Kd.at_int HR0_1.out x4_1 p513 q513
              obtain rfl : ad512 = ad513:=(by injection e513)
              replace hx513_0:=(HB.out.cell (World.block_lt_of_cell? w _ hx513_0)).trans hx513_0
              replace p513:=eq_true p513
              replace q513:=eq_true q513
              have p514 : 0 ≤ ((rd l0_1 x4_1) : Int):=of_decide_eq_true (by first|(with_reducible assumption)|assumption)
              have q514 : (rd l0_1 x4_1) < (l0_0.length : Int):=of_decide_eq_true (by first|(with_reducible assumption)|assumption)
              obtain ⟨ad514,e514,hx514_0⟩:=Kd.at_int HR0_0.out (rd l0_1 x4_1) p514 q514
              obtain rfl : ad511 = ad514:=(by injection e514)
              replace hx514_0:=(HB.out.cell (World.block_lt_of_cell? w _ hx514_0)).trans hx514_0
              replace p514:=eq_true p514
              replace q514:=eq_true q514
              go_wp2
              repeat (go_quiet (fail);try go_wp2)
              go_ret
              exact ⟨by first|rfl|(simp [errW_none,errW_some] <;> rfl)|(simp [*,errW_none,errW_some] <;> rfl),by repeat (first|(with_reducible first|exact HB.out|apply below_alloc|apply pw_below_drewN|apply below_drew1|refine below_set ?_ GE505.out)|exact HB.out)⟩
            ·
             rw [if_neg c18] at H
             exact absurd H (by simp)
           ·
            rw [if_neg c17] at H
            exact absurd H (by simp)
          ·
           rw [if_neg c16] at H
           exact absurd H (by simp)
         ·
          rw [if_neg c15] at H
          exact absurd H (by simp)
        ·
         rw [if_neg c14] at H
         exact absurd H (by simp)
       ·
        rw [if_neg c13] at H
        exact absurd H (by simp)
      ·
       rw [if_neg c12] at H
       have c12b0 : ((rd t507 x4_1) == 1) = false:=beq_eq_false_iff_ne.mpr c12
       have c12b1 : ((rd t507 x4_1) != 1) = true:=bne_iff_ne.mpr c12
       have H':=Aside0.mk H;clear H
       obtain ⟨Ao24,co24,eo24⟩:=Kd.R_slice HO_3.out;subst eo24
       have p510 : 0 ≤ (x4_1 : Int):=of_decide_eq_true (by first|(with_reducible assumption)|assumption)
       have q510 : x4_1 < (t507.length : Int):=of_decide_eq_true (by first|(with_reducible assumption)|assumption)
       obtain ⟨ad510,e510,hx510_0⟩:=Kd.at_int (Kd.R_reads' HO_3.out).2.2 x4_1 p510 q510
       cases e510
       replace p510:=eq_true p510
       replace q510:=eq_true q510
       go_wp2
       repeat (go_quiet (fail);try go_wp2)
       go_roundg k1
       case measure => have:=HK1.out;omega
       case rel => exact ⟨(wrap64 (x4_1 + 1)),(by first|rfl|(simp;done)|(simp [*];done)),H',⟨by have:=HK1.out;omega⟩,⟨rU HO_3.out⟩,⟨blkU BK505.out⟩,⟨by repeat (first|(with_reducible first|exact HB.out|apply below_alloc|apply pw_below_drewN|apply below_drew1|refine below_set ?_ GE505.out)|exact HB.out)⟩⟩
     ·
      rw [if_neg c11] at H
      exact absurd H (by simp)
    ·
     rw [if_neg c10] at H
     have c10b0 : decide (x4_1 < (t507.length : Int)) = false:=decide_eq_false c10;clear c10
     obtain rfl:=Option.some.inj H
     obtain ⟨Ao25,co25,eo25⟩:=Kd.R_slice HO_3.out;subst eo25
     go_wp2
     repeat (go_quiet (fail);try go_wp2)
     go_ret
     exact ⟨by first|rfl|(simp [errW_none,errW_some] <;> rfl)|(simp [*,errW_none,errW_some] <;> rfl),by repeat (first|(with_reducible first|exact HB.out|apply below_alloc|apply pw_below_drewN|apply below_drew1|refine below_set ?_ GE505.out)|exact HB.out)⟩
 ·
  replace c3:=Bool.eq_false_iff.mpr c3;subst c3
  have H1 : (some false) = some r:=by rw [if_neg (show ¬ (false = true) by decide)] at H;exact H
  clear H;have H:=H1;clear H1
  obtain rfl:=Option.some.inj H
  go_enter Try.func34,Try.ntmps34
  go_wp2_with (first|((with_reducible refine gate_dst (N:=1) rfl ?_);refine box_event ?hg (N:=1) ?hd (cs:=#[.slice A0_0 l0_0.length c0_0,.slice A0_1 l0_1.length c0_1,.slice A0_2 l0_2.length c0_2]) (t:=26) ?hr ?_;(case hd => rfl);(case hg => rfl);(case hr => first|(go_simp;done)|(go_simp;rfl));intro gb505 hg w26 hbox hb;have n0_:=Aside0.mk (below_step (belU HB.out) hb);have n1_:=Aside0.mk (hbox);have n2_:=Aside0.mk ((by rw [hg];exact (below_size (belU HB.out)) : w.heap.size ≤ gb505));have n3_:=Aside0.mk ((by rw [hg];exact (below_size (belU HB.out)) : w.heap.size ≤ gb505));clear HB;have HB:=n0_;have BK505:=n1_;have GW505:=n2_;have GE505:=n3_;clear n0_ n1_ n2_ n3_ hb hbox hg;have hcz27_0 : w26.cell? ⟨gb505,0,none⟩ = some (.slice A0_0 l0_0.length c0_0):=(blk_cell BK505.out 0).trans rfl;have hcz27_1 : w26.cell? ⟨gb505,1,none⟩ = some (.slice A0_1 l0_1.length c0_1):=(blk_cell BK505.out 1).trans rfl;have hcz27_2 : w26.cell? ⟨gb505,2,none⟩ = some (.slice A0_2 l0_2.length c0_2):=(blk_cell BK505.out 2).trans rfl;have hfz27_0:=blk_frozen BK505.out 0;have hfz27_1:=blk_frozen BK505.out 1;have hfz27_2:=blk_frozen BK505.out 2)|(go_at_call 61;(with_reducible refine (spec_MachineOk.calls k _ _ l0_0 _ _ l0_1 _ _ l0_2 false _ ?side1 ?side2 ?side3 ?side4 ?side5 ?side6 A2.out).mono ?_);(case side1 => exact cU (Kd.C_below HR0_0.out HB.out));(case side2 => exact HC0_0.out);(case side3 => exact cU (Kd.C_below HR0_1.out HB.out));(case side4 => exact HC0_1.out);(case side5 => exact cU (Kd.C_below HR0_2.out HB.out));(case side6 => exact HC0_2.out);rintro e w28 ⟨rfl,hb⟩;have n0_:=Aside0.mk (blk_below (g:=gb505) (o:=.cells #[.slice A0_0 l0_0.length c0_0,.slice A0_1 l0_1.length c0_1,.slice A0_2 l0_2.length c0_2] 26 (0,0)) (blkU BK505.out) hb);have n1_:=Aside0.mk (below_step (by repeat (first|(with_reducible first|exact HB.out|apply below_alloc|apply pw_below_drewN|apply below_drew1|refine below_set ?_ GE505.out)|exact HB.out)) hb);clear BK505 HB;have BK505:=n0_;have HB:=n1_;clear n0_ n1_;(try clear hb);(try clear hb2);(try clear hk);(try clear hi)))
  repeat (go_quiet (first|((with_reducible refine gate_dst (N:=1) rfl ?_);refine box_event ?hg (N:=1) ?hd (cs:=#[.slice A0_0 l0_0.length c0_0,.slice A0_1 l0_1.length c0_1,.slice A0_2 l0_2.length c0_2]) (t:=26) ?hr ?_;(case hd => rfl);(case hg => rfl);(case hr => first|(go_simp;done)|(go_simp;rfl));intro gb505 hg w26 hbox hb;have n0_:=Aside0.mk (below_step (belU HB.out) hb);have n1_:=Aside0.mk (hbox);have n2_:=Aside0.mk ((by rw [hg];exact (below_size (belU HB.out)) : w.heap.size ≤ gb505));have n3_:=Aside0.mk ((by rw [hg];exact (below_size (belU HB.out)) : w.heap.size ≤ gb505));clear HB;have HB:=n0_;have BK505:=n1_;have GW505:=n2_;have GE505:=n3_;clear n0_ n1_ n2_ n3_ hb hbox hg;have hcz27_0 : w26.cell? ⟨gb505,0,none⟩ = some (.slice A0_0 l0_0.length c0_0):=(blk_cell BK505.out 0).trans rfl;have hcz27_1 : w26.cell? ⟨gb505,1,none⟩ = some (.slice A0_1 l0_1.length c0_1):=(blk_cell BK505.out 1).trans rfl;have hcz27_2 : w26.cell? ⟨gb505,2,none⟩ = some (.slice A0_2 l0_2.length c0_2):=(blk_cell BK505.out 2).trans rfl;have hfz27_0:=blk_frozen BK505.out 0;have hfz27_1:=blk_frozen BK505.out 1;have hfz27_2:=blk_frozen BK505.out 2)|(go_at_call 61;(with_reducible refine (spec_MachineOk.calls k _ _ l0_0 _ _ l0_1 _ _ l0_2 false _ ?side1 ?side2 ?side3 ?side4 ?side5 ?side6 A2.out).mono ?_);(case side1 => exact cU (Kd.C_below HR0_0.out HB.out));(case side2 => exact HC0_0.out);(case side3 => exact cU (Kd.C_below HR0_1.out HB.out));(case side4 => exact HC0_1.out);(case side5 => exact cU (Kd.C_below HR0_2.out HB.out));(case side6 => exact HC0_2.out);rintro e w28 ⟨rfl,hb⟩;have n0_:=Aside0.mk (blk_below (g:=gb505) (o:=.cells #[.slice A0_0 l0_0.length c0_0,.slice A0_1 l0_1.length c0_1,.slice A0_2 l0_2.length c0_2] 26 (0,0)) (blkU BK505.out) hb);have n1_:=Aside0.mk (below_step (by repeat (first|(with_reducible first|exact HB.out|apply below_alloc|apply pw_below_drewN|apply below_drew1|refine below_set ?_ GE505.out)|exact HB.out)) hb);clear BK505 HB;have BK505:=n0_;have HB:=n1_;clear n0_ n1_;(try clear hb);(try clear hb2);(try clear hk);(try clear hi)));try go_wp2_with (first|((with_reducible refine gate_dst (N:=1) rfl ?_);refine box_event ?hg (N:=1) ?hd (cs:=#[.slice A0_0 l0_0.length c0_0,.slice A0_1 l0_1.length c0_1,.slice A0_2 l0_2.length c0_2]) (t:=26) ?hr ?_;(case hd => rfl);(case hg => rfl);(case hr => first|(go_simp;done)|(go_simp;rfl));intro gb505 hg w26 hbox hb;have n0_:=Aside0.mk (below_step (belU HB.out) hb);have n1_:=Aside0.mk (hbox);have n2_:=Aside0.mk ((by rw [hg];exact (below_size (belU HB.out)) : w.heap.size ≤ gb505));have n3_:=Aside0.mk ((by rw [hg];exact (below_size (belU HB.out)) : w.heap.size ≤ gb505));clear HB;have HB:=n0_;have BK505:=n1_;have GW505:=n2_;have GE505:=n3_;clear n0_ n1_ n2_ n3_ hb hbox hg;have hcz27_0 : w26.cell? ⟨gb505,0,none⟩ = some (.slice A0_0 l0_0.length c0_0):=(blk_cell BK505.out 0).trans rfl;have hcz27_1 : w26.cell? ⟨gb505,1,none⟩ = some (.slice A0_1 l0_1.length c0_1):=(blk_cell BK505.out 1).trans rfl;have hcz27_2 : w26.cell? ⟨gb505,2,none⟩ = some (.slice A0_2 l0_2.length c0_2):=(blk_cell BK505.out 2).trans rfl;have hfz27_0:=blk_frozen BK505.out 0;have hfz27_1:=blk_frozen BK505.out 1;have hfz27_2:=blk_frozen BK505.out 2)|(go_at_call 61;(with_reducible refine (spec_MachineOk.calls k _ _ l0_0 _ _ l0_1 _ _ l0_2 false _ ?side1 ?side2 ?side3 ?side4 ?side5 ?side6 A2.out).mono ?_);(case side1 => exact cU (Kd.C_below HR0_0.out HB.out));(case side2 => exact HC0_0.out);(case side3 => exact cU (Kd.C_below HR0_1.out HB.out));(case side4 => exact HC0_1.out);(case side5 => exact cU (Kd.C_below HR0_2.out HB.out));(case side6 => exact HC0_2.out);rintro e w28 ⟨rfl,hb⟩;have n0_:=Aside0.mk (blk_below (g:=gb505) (o:=.cells #[.slice A0_0 l0_0.length c0_0,.slice A0_1 l0_1.length c0_1,.slice A0_2 l0_2.length c0_2] 26 (0,0)) (blkU BK505.out) hb);have n1_:=Aside0.mk (below_step (by repeat (first|(with_reducible first|exact HB.out|apply below_alloc|apply pw_below_drewN|apply below_drew1|refine below_set ?_ GE505.out)|exact HB.out)) hb);clear BK505 HB;have BK505:=n0_;have HB:=n1_;clear n0_ n1_;(try clear hb);(try clear hb2);(try clear hk);(try clear hi))))
  go_ret
  exact ⟨by first|rfl|(simp [errW_none,errW_some] <;> rfl)|(simp [*,errW_none,errW_some] <;> rfl),by repeat (first|(with_reducible first|exact HB.out|apply below_alloc|apply pw_below_drewN|apply below_drew1|refine below_set ?_ GE505.out)|exact HB.out)⟩

end Go.Proofs.Ytiplbleghaoehaa.PA
