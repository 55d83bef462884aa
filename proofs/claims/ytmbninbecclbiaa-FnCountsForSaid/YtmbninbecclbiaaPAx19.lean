/- The machine side of functions of this seat, written by the session's program myprint.py: for each Go function a Lean function and the proof that the call answers just it. -/
import Derived.Test.YtmbninbecclbiaaPAx0
import Derived.Test.YtmbninbecclbiaaUp
import Derived.Test.YtmbninbecclbiaaPAx15
import Derived.Test.YtmbninbecclbiaaPAx16
import Derived.Test.YtmbninbecclbiaaPAx17
import Derived.Test.YtmbninbecclbiaaPAx18
namespace Go.Proofs.Ytmbninbecclbiaa.PA
open Go.RowKit Go.Proofs.YtmbninbecclbiaaW.PrintWords Go.Proofs.YtmbninbecclbiaaW.PrintLast Go.Proofs.YtmbninbecclbiaaW.PrintMore
attribute [local go_sem] max2_int min2_int max_two min_two max_three min_three max_four min_four   -- for this text's walks alone
set_option linter.unusedVariables false
set_option linter.unusedSimpArgs false

/-! ### impl_isStrict: function 66 -/
def impl_isStrict.f (a0_0 : Int) (a0_1 : Int) (a0_2 : Int) : Option (Bool):=if a0_0 = 1 then (some true) else (if a0_0 = 3 then (some true) else (some (a0_0 == 4)))
set_option maxHeartbeats 8000000 in
set_option maxRecDepth 100000 in
theorem impl_isStrict.calls (a0_0 : Int) (a0_1 : Int) (a0_2 : Int) (r : Bool) (w : World) (h : impl_isStrict.f a0_0 a0_1 a0_2 = some r) :
  Calls Try.prog 66 #[.agg #[.int .i64 a0_0,.int .i64 a0_1,.int .i64 a0_2]] w fun e w' => e = .returned (.bool r) ∧ Below w.heap.size w w':=by
 have hu29:=Try.underlying29;have HB:=Aside0.mk (Below.refl w.heap.size w)
 have H : (if a0_0 = 1 then (some true) else (if a0_0 = 3 then (some true) else (some (a0_0 == 4)))) = some r:=h;clear h
 by_cases c2 : a0_0 = 1
 ·
  rw [if_pos c2] at H
  have c2b0 : (a0_0 == 1) = true:=beq_iff_eq.mpr c2
  have c2b1 : (a0_0 != 1) = false:=bne_eq_false_iff_eq.mpr c2;clear c2
  obtain rfl:=Option.some.inj H
  go_enter Try.func66,Try.ntmps66
  go_wp2_with (first|((with_reducible refine gate_dst (N:=1) rfl ?_);refine box_event ?hg (N:=1) ?hd (cs:=#[.int .i64 a0_0,.int .i64 a0_1,.int .i64 a0_2]) (t:=29) ?hr ?_;(case hd => rfl);(case hg => rfl);(case hr => first|(go_simp;done)|(go_simp;rfl));intro gb306 hg w3 hbox hb;have n0_:=Aside0.mk (below_step (belU HB.out) hb);have n1_:=Aside0.mk (hbox);have n2_:=Aside0.mk ((by rw [hg];exact (below_size (belU HB.out)) : w.heap.size ≤ gb306));have n3_:=Aside0.mk ((by rw [hg];exact (below_size (belU HB.out)) : w.heap.size ≤ gb306));clear HB;have HB:=n0_;have BK306:=n1_;have GW306:=n2_;have GE306:=n3_;clear n0_ n1_ n2_ n3_ hb hbox hg;have hcz4_0 : w3.cell? ⟨gb306,0,none⟩ = some (.int .i64 a0_0):=(blk_cell BK306.out 0).trans rfl;have hcz4_1 : w3.cell? ⟨gb306,1,none⟩ = some (.int .i64 a0_1):=(blk_cell BK306.out 1).trans rfl;have hcz4_2 : w3.cell? ⟨gb306,2,none⟩ = some (.int .i64 a0_2):=(blk_cell BK306.out 2).trans rfl;have hfz4_0:=blk_frozen BK306.out 0;have hfz4_1:=blk_frozen BK306.out 1;have hfz4_2:=blk_frozen BK306.out 2))
  go_ret
  exact ⟨by first|rfl|(simp [errW_none,errW_some] <;> rfl)|(simp [*,errW_none,errW_some] <;> rfl),by repeat (first|(with_reducible first|exact HB.out|apply below_alloc|apply pw_below_drewN|apply below_drew1|refine below_set ?_ GE306.out)|exact HB.out)⟩
 ·
  rw [if_neg c2] at H
  have c2b0 : (a0_0 == 1) = false:=beq_eq_false_iff_ne.mpr c2
  have c2b1 : (a0_0 != 1) = true:=bne_iff_ne.mpr c2
  by_cases c5 : a0_0 = 3
  ·
   rw [if_pos c5] at H
   have c5b0 : (a0_0 == 3) = true:=beq_iff_eq.mpr c5
   have c5b1 : (a0_0 != 3) = false:=bne_eq_false_iff_eq.mpr c5;clear c5
   obtain rfl:=Option.some.inj H
   go_enter Try.func66,Try.ntmps66
   go_wp2_with (first|((with_reducible refine gate_dst (N:=1) rfl ?_);refine box_event ?hg (N:=1) ?hd (cs:=#[.int .i64 a0_0,.int .i64 a0_1,.int .i64 a0_2]) (t:=29) ?hr ?_;(case hd => rfl);(case hg => rfl);(case hr => first|(go_simp;done)|(go_simp;rfl));intro gb306 hg w6 hbox hb;have n0_:=Aside0.mk (below_step (belU HB.out) hb);have n1_:=Aside0.mk (hbox);have n2_:=Aside0.mk ((by rw [hg];exact (below_size (belU HB.out)) : w.heap.size ≤ gb306));have n3_:=Aside0.mk ((by rw [hg];exact (below_size (belU HB.out)) : w.heap.size ≤ gb306));clear HB;have HB:=n0_;have BK306:=n1_;have GW306:=n2_;have GE306:=n3_;clear n0_ n1_ n2_ n3_ hb hbox hg;have hcz7_0 : w6.cell? ⟨gb306,0,none⟩ = some (.int .i64 a0_0):=(blk_cell BK306.out 0).trans rfl;have hcz7_1 : w6.cell? ⟨gb306,1,none⟩ = some (.int .i64 a0_1):=(blk_cell BK306.out 1).trans rfl;have hcz7_2 : w6.cell? ⟨gb306,2,none⟩ = some (.int .i64 a0_2):=(blk_cell BK306.out 2).trans rfl;have hfz7_0:=blk_frozen BK306.out 0;have hfz7_1:=blk_frozen BK306.out 1;have hfz7_2:=blk_frozen BK306.out 2))
   go_ret
   exact ⟨by first|rfl|(simp [errW_none,errW_some] <;> rfl)|(simp [*,errW_none,errW_some] <;> rfl),by repeat (first|(with_reducible first|exact HB.out|apply below_alloc|apply pw_below_drewN|apply below_drew1|refine below_set ?_ GE306.out)|exact HB.out)⟩
  ·
   rw [if_neg c5] at H
   have c5b0 : (a0_0 == 3) = false:=beq_eq_false_iff_ne.mpr c5
   have c5b1 : (a0_0 != 3) = true:=bne_iff_ne.mpr c5
   obtain rfl:=Option.some.inj H
   go_enter Try.func66,Try.ntmps66
   go_wp2_with (first|((with_reducible refine gate_dst (N:=1) rfl ?_);refine box_event ?hg (N:=1) ?hd (cs:=#[.int .i64 a0_0,.int .i64 a0_1,.int .i64 a0_2]) (t:=29) ?hr ?_;(case hd => rfl);(case hg => rfl);(case hr => first|(go_simp;done)|(go_simp;rfl));intro gb306 hg w8 hbox hb;have n0_:=Aside0.mk (below_step (belU HB.out) hb);have n1_:=Aside0.mk (hbox);have n2_:=Aside0.mk ((by rw [hg];exact (below_size (belU HB.out)) : w.heap.size ≤ gb306));have n3_:=Aside0.mk ((by rw [hg];exact (below_size (belU HB.out)) : w.heap.size ≤ gb306));clear HB;have HB:=n0_;have BK306:=n1_;have GW306:=n2_;have GE306:=n3_;clear n0_ n1_ n2_ n3_ hb hbox hg;have hcz9_0 : w8.cell? ⟨gb306,0,none⟩ = some (.int .i64 a0_0):=(blk_cell BK306.out 0).trans rfl;have hcz9_1 : w8.cell? ⟨gb306,1,none⟩ = some (.int .i64 a0_1):=(blk_cell BK306.out 1).trans rfl;have hcz9_2 : w8.cell? ⟨gb306,2,none⟩ = some (.int .i64 a0_2):=(blk_cell BK306.out 2).trans rfl;have hfz9_0:=blk_frozen BK306.out 0;have hfz9_1:=blk_frozen BK306.out 1;have hfz9_2:=blk_frozen BK306.out 2))
   go_ret
   exact ⟨by first|rfl|(simp [errW_none,errW_some] <;> rfl)|(simp [*,errW_none,errW_some] <;> rfl),by repeat (first|(with_reducible first|exact HB.out|apply below_alloc|apply pw_below_drewN|apply below_drew1|refine below_set ?_ GE306.out)|exact HB.out)⟩

/-! ### impl_weighSo: function 46 -/
def impl_weighSo.f (k : Nat) (l0 : List Int) (a1_0 : Int) (a1_1 : Int) (a1_2 : Int) : Option (Bool):=(impl_weightsOf.f k a1_0 a1_1 a1_2).bind fun t308 => ((impl_weighed.f k l0 t308).bind fun t311 => ((impl_isStrict.f a1_0 a1_1 a1_2).bind fun t312 => (if t312 = true then (some (decide (t311 > 0))) else (some (decide (t311 ≥ 0))))))
theorem impl_weighSo.mono : ∀ a0 a1 a2 a3 k,LeO (impl_weighSo.f k a0 a1 a2 a3) (impl_weighSo.f (k + 1) a0 a1 a2 a3):=by
 intro a0 a1 a2 a3 k
 unfold impl_weighSo.f
 repeat' first
   | (with_reducible exact impl_weighed.mono _ _ _)
   | (with_reducible exact impl_weightsOf.mono _ _ _ _)
   | (with_reducible exact LeO.refl _)
   | (with_reducible exact LeO.none _)
   | (with_reducible refine LeO.ite ?_ ?_)
   | (with_reducible refine LeO.bind ?_ (fun _ => ?_))
   | exact impl_weighed.mono _ _ _
   | exact impl_weightsOf.mono _ _ _ _
   | exact LeO.none _
   | refine LeO.ite ?_ ?_
   | refine LeO.bind ?_ (fun _ => ?_)
set_option maxHeartbeats 8000000 in
set_option maxRecDepth 100000 in
theorem impl_weighSo.calls (k : Nat) (A0 : Option Addr) (c0 : Nat) (l0 : List Int) (a1_0 : Int) (a1_1 : Int) (a1_2 : Int) (r : Bool) (w : World) (hr0 : Kd.C (Kd.int .i64) w A0 l0.length l0) (hc0 : l0.length ≤ c0) (h : impl_weighSo.f k l0 a1_0 a1_1 a1_2 = some r) :
  Calls Try.prog 46 #[.slice A0 l0.length c0,.agg #[.int .i64 a1_0,.int .i64 a1_1,.int .i64 a1_2]] w fun e w' => e = .returned (.bool r) ∧ Below w.heap.size w w':=by
 have hu29:=Try.underlying29
 have HR0:=Aside0.mk hr0
 have HC0:=Aside0.mk hc0;clear hr0 hc0;have HB:=Aside0.mk (Below.refl w.heap.size w)
 have H : ((impl_weightsOf.f k a1_0 a1_1 a1_2).bind fun t308 => ((impl_weighed.f k l0 t308).bind fun t311 => ((impl_isStrict.f a1_0 a1_1 a1_2).bind fun t312 => (if t312 = true then (some (decide (t311 > 0))) else (some (decide (t311 ≥ 0))))))) = some r:=h;clear h
 replace H:=Option.bind_eq_some_iff.mp H
 obtain ⟨t308,A30,H⟩:=H
 replace H : ((impl_weighed.f k l0 t308).bind fun t311 => ((impl_isStrict.f a1_0 a1_1 a1_2).bind fun t312 => (if t312 = true then (some (decide (t311 > 0))) else (some (decide (t311 ≥ 0)))))) = some r:=H
 have A3:=Aside0.mk A30;clear A30
 replace H:=Option.bind_eq_some_iff.mp H
 obtain ⟨t311,A40,H⟩:=H
 replace H : ((impl_isStrict.f a1_0 a1_1 a1_2).bind fun t312 => (if t312 = true then (some (decide (t311 > 0))) else (some (decide (t311 ≥ 0))))) = some r:=H
 have A4:=Aside0.mk A40;clear A40
 replace H:=Option.bind_eq_some_iff.mp H
 obtain ⟨t312,A50,H⟩:=H
 replace H : (if t312 = true then (some (decide (t311 > 0))) else (some (decide (t311 ≥ 0)))) = some r:=H
 have A5:=Aside0.mk A50;clear A50
 by_cases c6 : t312 = true
 ·
  subst c6
  have H1 : (some (decide (t311 > 0))) = some r:=by rw [if_pos rfl] at H;exact H
  clear H;have H:=H1;clear H1
  obtain rfl:=Option.some.inj H
  go_enter Try.func46,Try.ntmps46
  go_wp2_with (first|((with_reducible refine gate_dst (N:=3) rfl ?_);refine box_event ?hg (N:=3) ?hd (cs:=#[.int .i64 a1_0,.int .i64 a1_1,.int .i64 a1_2]) (t:=29) ?hr ?_;(case hd => rfl);(case hg => rfl);(case hr => first|(go_simp;done)|(go_simp;rfl));intro gb307 hg w7 hbox hb;have n0_:=Aside0.mk (below_step (belU HB.out) hb);have n1_:=Aside0.mk (hbox);have n2_:=Aside0.mk ((by rw [hg];exact (below_size (belU HB.out)) : w.heap.size ≤ gb307));have n3_:=Aside0.mk ((by rw [hg];exact (below_size (belU HB.out)) : w.heap.size ≤ gb307));clear HB;have HB:=n0_;have BK307:=n1_;have GW307:=n2_;have GE307:=n3_;clear n0_ n1_ n2_ n3_ hb hbox hg;have hcz8_0 : w7.cell? ⟨gb307,0,none⟩ = some (.int .i64 a1_0):=(blk_cell BK307.out 0).trans rfl;have hcz8_1 : w7.cell? ⟨gb307,1,none⟩ = some (.int .i64 a1_1):=(blk_cell BK307.out 1).trans rfl;have hcz8_2 : w7.cell? ⟨gb307,2,none⟩ = some (.int .i64 a1_2):=(blk_cell BK307.out 2).trans rfl;have hfz8_0:=blk_frozen BK307.out 0;have hfz8_1:=blk_frozen BK307.out 1;have hfz8_2:=blk_frozen BK307.out 2)|((with_reducible refine gate_callee (f:=65) rfl ?_);refine goesL_ (some 8) rfl rfl Try.func65 (by kernel_rfl) rfl #[.agg #[.int .i64 a1_0,.int .i64 a1_1,.int .i64 a1_2]] rfl (by (try simp only [List.map_toArray,List.map_cons,List.map_nil]);first|done|rfl|(simp only [List.length_drop,List.length_take];rfl)) ?_;(with_reducible refine (impl_weightsOf.calls k a1_0 a1_1 a1_2 t308 _ A3.out).mono ?_);rintro e w9 ⟨v309,rfl,ho0,hb⟩;refine ⟨_,rfl,?_⟩;have n0_:=Aside0.mk (Kd.R_lower ho0 (below_size (by repeat (first|(with_reducible first|exact HB.out|apply below_alloc|apply pw_below_drewN|apply below_drew1|refine below_set ?_ GE307.out)|exact HB.out))));have n1_:=Aside0.mk (blk_below (g:=gb307) (o:=.cells #[.int .i64 a1_0,.int .i64 a1_1,.int .i64 a1_2] 29 (0,0)) (blkU BK307.out) hb);have n2_:=Aside0.mk (below_step (by repeat (first|(with_reducible first|exact HB.out|apply below_alloc|apply pw_below_drewN|apply below_drew1|refine below_set ?_ GE307.out)|exact HB.out)) hb);clear BK307 HB;have HO310:=n0_;have BK307:=n1_;have HB:=n2_;clear n0_ n1_ n2_;(try clear hb);(try clear hb2);(try clear hk);(try clear hi);(try clear ho0);obtain ⟨Ao10,co10,eo10⟩:=Kd.R_slice HO310.out;subst eo10)|((with_reducible refine gate_callee (f:=64) rfl ?_);refine goesL_ (some 9) rfl rfl Try.func64 (by kernel_rfl) rfl #[.slice A0 l0.length c0,.slice Ao10 t308.length co10] rfl (by (try simp only [List.map_toArray,List.map_cons,List.map_nil]);first|done|rfl|(simp only [List.length_drop,List.length_take];rfl)) ?_;(with_reducible refine (impl_weighed.calls k _ _ l0 _ _ t308 t311 _ ?side1 ?side2 ?side3 ?side4 A4.out).mono ?_);(case side1 => exact cU (Kd.C_below HR0.out HB.out));(case side2 => exact HC0.out);(case side3 => exact cU (Kd.R_reads' HO310.out).2.2);(case side4 => exact (Kd.R_reads' HO310.out).2.1);rintro e w' ⟨rfl,⟨nd,rfl⟩⟩;refine ⟨_,rfl,?_⟩;have hcz11_0 : w9.cell? ⟨gb307,0,none⟩ = some (.int .i64 a1_0):=(blk_cell BK307.out 0).trans rfl;have hcz11_1 : w9.cell? ⟨gb307,1,none⟩ = some (.int .i64 a1_1):=(blk_cell BK307.out 1).trans rfl;have hcz11_2 : w9.cell? ⟨gb307,2,none⟩ = some (.int .i64 a1_2):=(blk_cell BK307.out 2).trans rfl;have hfz11_0:=blk_frozen BK307.out 0;have hfz11_1:=blk_frozen BK307.out 1;have hfz11_2:=blk_frozen BK307.out 2)|((with_reducible refine gate_callee (f:=66) rfl ?_);refine goesL_ (some 11) rfl rfl Try.func66 (by kernel_rfl) rfl #[.agg #[.int .i64 a1_0,.int .i64 a1_1,.int .i64 a1_2]] rfl (by (try simp only [List.map_toArray,List.map_cons,List.map_nil]);first|done|rfl|(simp only [List.length_drop,List.length_take];rfl)) ?_;(with_reducible refine (impl_isStrict.calls a1_0 a1_1 a1_2 true _ A5.out).mono ?_);rintro e w12 ⟨rfl,hb⟩;refine ⟨_,rfl,?_⟩;have n0_:=Aside0.mk (Kd.R_below (rU HO310.out) hb);have n1_:=Aside0.mk (blk_below (g:=gb307) (o:=.cells #[.int .i64 a1_0,.int .i64 a1_1,.int .i64 a1_2] 29 (0,0)) (blkU BK307.out) hb);have n2_:=Aside0.mk (below_step (by repeat (first|(with_reducible first|exact HB.out|apply below_alloc|apply pw_below_drewN|apply below_drew1|refine below_set ?_ GE307.out)|exact HB.out)) hb);clear HO310 BK307 HB;have HO310:=n0_;have BK307:=n1_;have HB:=n2_;clear n0_ n1_ n2_;(try clear hb);(try clear hb2);(try clear hk);(try clear hi)))
  go_ret
  exact ⟨by first|rfl|(simp [errW_none,errW_some] <;> rfl)|(simp [*,errW_none,errW_some] <;> rfl),by repeat (first|(with_reducible first|exact HB.out|apply below_alloc|apply pw_below_drewN|apply below_drew1|refine below_set ?_ GE307.out)|exact HB.out)⟩
 ·
  replace c6:=Bool.eq_false_iff.mpr c6;subst c6
  have H1 : (some (decide (t311 ≥ 0))) = some r:=by rw [if_neg (show ¬ (false = true) by decide)] at H;exact H
  clear H;have H:=H1;clear H1
  obtain rfl:=Option.some.inj H
  go_enter Try.func46,Try.ntmps46
  go_wp2_with (first|((with_reducible refine gate_dst (N:=3) rfl ?_);refine box_event ?hg (N:=3) ?hd (cs:=#[.int .i64 a1_0,.int .i64 a1_1,.int .i64 a1_2]) (t:=29) ?hr ?_;(case hd => rfl);(case hg => rfl);(case hr => first|(go_simp;done)|(go_simp;rfl));intro gb307 hg w13 hbox hb;have n0_:=Aside0.mk (below_step (belU HB.out) hb);have n1_:=Aside0.mk (hbox);have n2_:=Aside0.mk ((by rw [hg];exact (below_size (belU HB.out)) : w.heap.size ≤ gb307));have n3_:=Aside0.mk ((by rw [hg];exact (below_size (belU HB.out)) : w.heap.size ≤ gb307));clear HB;have HB:=n0_;have BK307:=n1_;have GW307:=n2_;have GE307:=n3_;clear n0_ n1_ n2_ n3_ hb hbox hg;have hcz14_0 : w13.cell? ⟨gb307,0,none⟩ = some (.int .i64 a1_0):=(blk_cell BK307.out 0).trans rfl;have hcz14_1 : w13.cell? ⟨gb307,1,none⟩ = some (.int .i64 a1_1):=(blk_cell BK307.out 1).trans rfl;have hcz14_2 : w13.cell? ⟨gb307,2,none⟩ = some (.int .i64 a1_2):=(blk_cell BK307.out 2).trans rfl;have hfz14_0:=blk_frozen BK307.out 0;have hfz14_1:=blk_frozen BK307.out 1;have hfz14_2:=blk_frozen BK307.out 2)|((with_reducible refine gate_callee (f:=65) rfl ?_);refine goesL_ (some 8) rfl rfl Try.func65 (by kernel_rfl) rfl #[.agg #[.int .i64 a1_0,.int .i64 a1_1,.int .i64 a1_2]] rfl (by (try simp only [List.map_toArray,List.map_cons,List.map_nil]);first|done|rfl|(simp only [List.length_drop,List.length_take];rfl)) ?_;(with_reducible refine (impl_weightsOf.calls k a1_0 a1_1 a1_2 t308 _ A3.out).mono ?_);rintro e w15 ⟨v309,rfl,ho0,hb⟩;refine ⟨_,rfl,?_⟩;have n0_:=Aside0.mk (Kd.R_lower ho0 (below_size (by repeat (first|(with_reducible first|exact HB.out|apply below_alloc|apply pw_below_drewN|apply below_drew1|refine below_set ?_ GE307.out)|exact HB.out))));have n1_:=Aside0.mk (blk_below (g:=gb307) (o:=.cells #[.int .i64 a1_0,.int .i64 a1_1,.int .i64 a1_2] 29 (0,0)) (blkU BK307.out) hb);have n2_:=Aside0.mk (below_step (by repeat (first|(with_reducible first|exact HB.out|apply below_alloc|apply pw_below_drewN|apply below_drew1|refine below_set ?_ GE307.out)|exact HB.out)) hb);clear BK307 HB;have HO310:=n0_;have BK307:=n1_;have HB:=n2_;clear n0_ n1_ n2_;(try clear hb);(try clear hb2);(try clear hk);(try clear hi);(try clear ho0);obtain ⟨Ao16,co16,eo16⟩:=Kd.R_slice HO310.out;subst eo16)|((with_reducible refine gate_callee (f:=64) rfl ?_);refine goesL_ (some 9) rfl rfl Try.func64 (by kernel_rfl) rfl #[.slice A0 l0.length c0,.slice Ao16 t308.length co16] rfl (by (try simp only [List.map_toArray,List.map_cons,List.map_nil]);first|done|rfl|(simp only [List.length_drop,List.length_take];rfl)) ?_;(with_reducible refine (impl_weighed.calls k _ _ l0 _ _ t308 t311 _ ?side1 ?side2 ?side3 ?side4 A4.out).mono ?_);(case side1 => exact cU (Kd.C_below HR0.out HB.out));(case side2 => exact HC0.out);(case side3 => exact cU (Kd.R_reads' HO310.out).2.2);(case side4 => exact (Kd.R_reads' HO310.out).2.1);rintro e w' ⟨rfl,⟨nd,rfl⟩⟩;refine ⟨_,rfl,?_⟩;have hcz17_0 : w15.cell? ⟨gb307,0,none⟩ = some (.int .i64 a1_0):=(blk_cell BK307.out 0).trans rfl;have hcz17_1 : w15.cell? ⟨gb307,1,none⟩ = some (.int .i64 a1_1):=(blk_cell BK307.out 1).trans rfl;have hcz17_2 : w15.cell? ⟨gb307,2,none⟩ = some (.int .i64 a1_2):=(blk_cell BK307.out 2).trans rfl;have hfz17_0:=blk_frozen BK307.out 0;have hfz17_1:=blk_frozen BK307.out 1;have hfz17_2:=blk_frozen BK307.out 2)|((with_reducible refine gate_callee (f:=66) rfl ?_);refine goesL_ (some 11) rfl rfl Try.func66 (by kernel_rfl) rfl #[.agg #[.int .i64 a1_0,.int .i64 a1_1,.int .i64 a1_2]] rfl (by (try simp only [List.map_toArray,List.map_cons,List.map_nil]);first|done|rfl|(simp only [List.length_drop,List.length_take];rfl)) ?_;(with_reducible refine (impl_isStrict.calls a1_0 a1_1 a1_2 false _ A5.out).mono ?_);rintro e w18 ⟨rfl,hb⟩;refine ⟨_,rfl,?_⟩;have n0_:=Aside0.mk (Kd.R_below (rU HO310.out) hb);have n1_:=Aside0.mk (blk_below (g:=gb307) (o:=.cells #[.int .i64 a1_0,.int .i64 a1_1,.int .i64 a1_2] 29 (0,0)) (blkU BK307.out) hb);have n2_:=Aside0.mk (below_step (by repeat (first|(with_reducible first|exact HB.out|apply below_alloc|apply pw_below_drewN|apply below_drew1|refine below_set ?_ GE307.out)|exact HB.out)) hb);clear HO310 BK307 HB;have HO310:=n0_;have BK307:=n1_;have HB:=n2_;clear n0_ n1_ n2_;(try clear hb);(try clear hb2);(try clear hk);(try clear hi)))
  go_ret
  exact ⟨by first|rfl|(simp [errW_none,errW_some] <;> rfl)|(simp [*,errW_none,errW_some] <;> rfl),by repeat (first|(with_reducible first|exact HB.out|apply below_alloc|apply pw_below_drewN|apply below_drew1|refine below_set ?_ GE307.out)|exact HB.out)⟩

/-! ### impl_WeighSo: function 18 -/
def impl_WeighSo.f (k : Nat) (l0 : List Int) (a1_0 : Int) (a1_1 : Int) (a1_2 : Int) : Option (Bool):=(impl_areCounts.f l0).bind fun t314 => (if t314 = true then ((impl_isWeigh.f a1_0 a1_1 a1_2).bind fun t315 => (if t315 = true then ((impl_weighSo.f k l0 a1_0 a1_1 a1_2).bind fun t316 => (some t316)) else (some false))) else (some false))
theorem impl_WeighSo.mono : ∀ a0 a1 a2 a3 k,LeO (impl_WeighSo.f k a0 a1 a2 a3) (impl_WeighSo.f (k + 1) a0 a1 a2 a3):=by
 intro a0 a1 a2 a3 k
 unfold impl_WeighSo.f
 repeat' first
   | (with_reducible exact impl_weighSo.mono _ _ _ _ _)
   | (with_reducible exact LeO.refl _)
   | (with_reducible exact LeO.none _)
   | (with_reducible refine LeO.ite ?_ ?_)
   | (with_reducible refine LeO.bind ?_ (fun _ => ?_))
   | exact impl_weighSo.mono _ _ _ _ _
   | exact LeO.none _
   | refine LeO.ite ?_ ?_
   | refine LeO.bind ?_ (fun _ => ?_)
set_option maxHeartbeats 8000000 in
set_option maxRecDepth 100000 in
theorem impl_WeighSo.calls (k : Nat) (A0 : Option Addr) (c0 : Nat) (l0 : List Int) (a1_0 : Int) (a1_1 : Int) (a1_2 : Int) (r : Bool) (w : World) (hr0 : Kd.C (Kd.int .i64) w A0 l0.length l0) (hc0 : l0.length ≤ c0) (h : impl_WeighSo.f k l0 a1_0 a1_1 a1_2 = some r) :
  Calls Try.prog 18 #[.slice A0 l0.length c0,.agg #[.int .i64 a1_0,.int .i64 a1_1,.int .i64 a1_2]] w fun e w' => e = .returned (.bool r) ∧ Below w.heap.size w w':=by
 have hu29:=Try.underlying29
 have HR0:=Aside0.mk hr0
 have HC0:=Aside0.mk hc0;clear hr0 hc0;have HB:=Aside0.mk (Below.refl w.heap.size w)
 have H : ((impl_areCounts.f l0).bind fun t314 => (if t314 = true then ((impl_isWeigh.f a1_0 a1_1 a1_2).bind fun t315 => (if t315 = true then ((impl_weighSo.f k l0 a1_0 a1_1 a1_2).bind fun t316 => (some t316)) else (some false))) else (some false))) = some r:=h;clear h
 replace H:=Option.bind_eq_some_iff.mp H
 obtain ⟨t314,A30,H⟩:=H
 replace H : (if t314 = true then ((impl_isWeigh.f a1_0 a1_1 a1_2).bind fun t315 => (if t315 = true then ((impl_weighSo.f k l0 a1_0 a1_1 a1_2).bind fun t316 => (some t316)) else (some false))) else (some false)) = some r:=H
 have A3:=Aside0.mk A30;clear A30
 by_cases c4 : t314 = true
 ·
  subst c4
  have H1 : ((impl_isWeigh.f a1_0 a1_1 a1_2).bind fun t315 => (if t315 = true then ((impl_weighSo.f k l0 a1_0 a1_1 a1_2).bind fun t316 => (some t316)) else (some false))) = some r:=by rw [if_pos rfl] at H;exact H
  clear H;have H:=H1;clear H1
  replace H:=Option.bind_eq_some_iff.mp H
  obtain ⟨t315,A50,H⟩:=H
  replace H : (if t315 = true then ((impl_weighSo.f k l0 a1_0 a1_1 a1_2).bind fun t316 => (some t316)) else (some false)) = some r:=H
  have A5:=Aside0.mk A50;clear A50
  by_cases c6 : t315 = true
  ·
   subst c6
   have H1 : ((impl_weighSo.f k l0 a1_0 a1_1 a1_2).bind fun t316 => (some t316)) = some r:=by rw [if_pos rfl] at H;exact H
   clear H;have H:=H1;clear H1
   replace H:=Option.bind_eq_some_iff.mp H
   obtain ⟨t316,A70,H⟩:=H
   replace H : (some t316) = some r:=H
   have A7:=Aside0.mk A70;clear A70
   obtain rfl:=Option.some.inj H
   go_enter Try.func18,Try.ntmps18
   go_wp2_with (first|((with_reducible refine gate_dst (N:=3) rfl ?_);refine box_event ?hg (N:=3) ?hd (cs:=#[.int .i64 a1_0,.int .i64 a1_1,.int .i64 a1_2]) (t:=29) ?hr ?_;(case hd => rfl);(case hg => rfl);(case hr => first|(go_simp;done)|(go_simp;rfl));intro gb313 hg w8 hbox hb;have n0_:=Aside0.mk (below_step (belU HB.out) hb);have n1_:=Aside0.mk (hbox);have n2_:=Aside0.mk ((by rw [hg];exact (below_size (belU HB.out)) : w.heap.size ≤ gb313));have n3_:=Aside0.mk ((by rw [hg];exact (below_size (belU HB.out)) : w.heap.size ≤ gb313));clear HB;have HB:=n0_;have BK313:=n1_;have GW313:=n2_;have GE313:=n3_;clear n0_ n1_ n2_ n3_ hb hbox hg)|((with_reducible refine gate_callee (f:=45) rfl ?_);refine goesL_ (some 6) rfl rfl Try.func45 (by kernel_rfl) rfl #[.slice A0 l0.length c0] rfl (by (try simp only [List.map_toArray,List.map_cons,List.map_nil]);first|done|rfl|(simp only [List.length_drop,List.length_take];rfl)) ?_;(with_reducible refine (impl_areCounts.calls _ _ l0 true _ ?side1 ?side2 A3.out).mono ?_);(case side1 => exact cU (Kd.C_below HR0.out HB.out));(case side2 => exact HC0.out);rintro e w9 ⟨rfl,hb⟩;refine ⟨_,rfl,?_⟩;have n0_:=Aside0.mk (blk_below (g:=gb313) (o:=.cells #[.int .i64 a1_0,.int .i64 a1_1,.int .i64 a1_2] 29 (0,0)) (blkU BK313.out) hb);have n1_:=Aside0.mk (below_step (by repeat (first|(with_reducible first|exact HB.out|apply below_alloc|apply pw_below_drewN|apply below_drew1|refine below_set ?_ GE313.out)|exact HB.out)) hb);clear BK313 HB;have BK313:=n0_;have HB:=n1_;clear n0_ n1_;(try clear hb);(try clear hb2);(try clear hk);(try clear hi);have hcz10_0 : w9.cell? ⟨gb313,0,none⟩ = some (.int .i64 a1_0):=(blk_cell BK313.out 0).trans rfl;have hcz10_1 : w9.cell? ⟨gb313,1,none⟩ = some (.int .i64 a1_1):=(blk_cell BK313.out 1).trans rfl;have hcz10_2 : w9.cell? ⟨gb313,2,none⟩ = some (.int .i64 a1_2):=(blk_cell BK313.out 2).trans rfl;have hfz10_0:=blk_frozen BK313.out 0;have hfz10_1:=blk_frozen BK313.out 1;have hfz10_2:=blk_frozen BK313.out 2)|(go_at_call 37;(with_reducible refine (impl_isWeigh.calls a1_0 a1_1 a1_2 true _ A5.out).mono ?_);rintro e w11 ⟨rfl,hb⟩;have n0_:=Aside0.mk (blk_below (g:=gb313) (o:=.cells #[.int .i64 a1_0,.int .i64 a1_1,.int .i64 a1_2] 29 (0,0)) (blkU BK313.out) hb);have n1_:=Aside0.mk (below_step (by repeat (first|(with_reducible first|exact HB.out|apply below_alloc|apply pw_below_drewN|apply below_drew1|refine below_set ?_ GE313.out)|exact HB.out)) hb);clear BK313 HB;have BK313:=n0_;have HB:=n1_;clear n0_ n1_;(try clear hb);(try clear hb2);(try clear hk);(try clear hi);have hcz12_0 : w11.cell? ⟨gb313,0,none⟩ = some (.int .i64 a1_0):=(blk_cell BK313.out 0).trans rfl;have hcz12_1 : w11.cell? ⟨gb313,1,none⟩ = some (.int .i64 a1_1):=(blk_cell BK313.out 1).trans rfl;have hcz12_2 : w11.cell? ⟨gb313,2,none⟩ = some (.int .i64 a1_2):=(blk_cell BK313.out 2).trans rfl;have hfz12_0:=blk_frozen BK313.out 0;have hfz12_1:=blk_frozen BK313.out 1;have hfz12_2:=blk_frozen BK313.out 2)|(go_at_call 46;(with_reducible refine (impl_weighSo.calls k _ _ l0 a1_0 a1_1 a1_2 t316 _ ?side1 ?side2 A7.out).mono ?_);(case side1 => exact cU (Kd.C_below HR0.out HB.out));(case side2 => exact HC0.out);rintro e w13 ⟨rfl,hb⟩;have n0_:=Aside0.mk (blk_below (g:=gb313) (o:=.cells #[.int .i64 a1_0,.int .i64 a1_1,.int .i64 a1_2] 29 (0,0)) (blkU BK313.out) hb);have n1_:=Aside0.mk (below_step (by repeat (first|(with_reducible first|exact HB.out|apply below_alloc|apply pw_below_drewN|apply below_drew1|refine below_set ?_ GE313.out)|exact HB.out)) hb);clear BK313 HB;have BK313:=n0_;have HB:=n1_;clear n0_ n1_;(try clear hb);(try clear hb2);(try clear hk);(try clear hi)))
   go_ret
   exact ⟨by first|rfl|(simp [errW_none,errW_some] <;> rfl)|(simp [*,errW_none,errW_some] <;> rfl),by repeat (first|(with_reducible first|exact HB.out|apply below_alloc|apply pw_below_drewN|apply below_drew1|refine below_set ?_ GE313.out)|exact HB.out)⟩
  ·
   replace c6:=Bool.eq_false_iff.mpr c6;subst c6
   have H1 : (some false) = some r:=by rw [if_neg (show ¬ (false = true) by decide)] at H;exact H
   clear H;have H:=H1;clear H1
   obtain rfl:=Option.some.inj H
   go_enter Try.func18,Try.ntmps18
   go_wp2_with (first|((with_reducible refine gate_dst (N:=3) rfl ?_);refine box_event ?hg (N:=3) ?hd (cs:=#[.int .i64 a1_0,.int .i64 a1_1,.int .i64 a1_2]) (t:=29) ?hr ?_;(case hd => rfl);(case hg => rfl);(case hr => first|(go_simp;done)|(go_simp;rfl));intro gb313 hg w14 hbox hb;have n0_:=Aside0.mk (below_step (belU HB.out) hb);have n1_:=Aside0.mk (hbox);have n2_:=Aside0.mk ((by rw [hg];exact (below_size (belU HB.out)) : w.heap.size ≤ gb313));have n3_:=Aside0.mk ((by rw [hg];exact (below_size (belU HB.out)) : w.heap.size ≤ gb313));clear HB;have HB:=n0_;have BK313:=n1_;have GW313:=n2_;have GE313:=n3_;clear n0_ n1_ n2_ n3_ hb hbox hg)|((with_reducible refine gate_callee (f:=45) rfl ?_);refine goesL_ (some 6) rfl rfl Try.func45 (by kernel_rfl) rfl #[.slice A0 l0.length c0] rfl (by (try simp only [List.map_toArray,List.map_cons,List.map_nil]);first|done|rfl|(simp only [List.length_drop,List.length_take];rfl)) ?_;(with_reducible refine (impl_areCounts.calls _ _ l0 true _ ?side1 ?side2 A3.out).mono ?_);(case side1 => exact cU (Kd.C_below HR0.out HB.out));(case side2 => exact HC0.out);rintro e w15 ⟨rfl,hb⟩;refine ⟨_,rfl,?_⟩;have n0_:=Aside0.mk (blk_below (g:=gb313) (o:=.cells #[.int .i64 a1_0,.int .i64 a1_1,.int .i64 a1_2] 29 (0,0)) (blkU BK313.out) hb);have n1_:=Aside0.mk (below_step (by repeat (first|(with_reducible first|exact HB.out|apply below_alloc|apply pw_below_drewN|apply below_drew1|refine below_set ?_ GE313.out)|exact HB.out)) hb);clear BK313 HB;have BK313:=n0_;have HB:=n1_;clear n0_ n1_;(try clear hb);(try clear hb2);(try clear hk);(try clear hi);have hcz16_0 : w15.cell? ⟨gb313,0,none⟩ = some (.int .i64 a1_0):=(blk_cell BK313.out 0).trans rfl;have hcz16_1 : w15.cell? ⟨gb313,1,none⟩ = some (.int .i64 a1_1):=(blk_cell BK313.out 1).trans rfl;have hcz16_2 : w15.cell? ⟨gb313,2,none⟩ = some (.int .i64 a1_2):=(blk_cell BK313.out 2).trans rfl;have hfz16_0:=blk_frozen BK313.out 0;have hfz16_1:=blk_frozen BK313.out 1;have hfz16_2:=blk_frozen BK313.out 2)|(go_at_call 37;(with_reducible refine (impl_isWeigh.calls a1_0 a1_1 a1_2 false _ A5.out).mono ?_);rintro e w17 ⟨rfl,hb⟩;have n0_:=Aside0.mk (blk_below (g:=gb313) (o:=.cells #[.int .i64 a1_0,.int .i64 a1_1,.int .i64 a1_2] 29 (0,0)) (blkU BK313.out) hb);have n1_:=Aside0.mk (below_step (by repeat (first|(with_reducible first|exact HB.out|apply below_alloc|apply pw_below_drewN|apply below_drew1|refine below_set ?_ GE313.out)|exact HB.out)) hb);clear BK313 HB;have BK313:=n0_;have HB:=n1_;clear n0_ n1_;(try clear hb);(try clear hb2);(try clear hk);(try clear hi)))
   go_ret
   exact ⟨by first|rfl|(simp [errW_none,errW_some] <;> rfl)|(simp [*,errW_none,errW_some] <;> rfl),by repeat (first|(with_reducible first|exact HB.out|apply below_alloc|apply pw_below_drewN|apply below_drew1|refine below_set ?_ GE313.out)|exact HB.out)⟩
 ·
  replace c4:=Bool.eq_false_iff.mpr c4;subst c4
  have H1 : (some false) = some r:=by rw [if_neg (show ¬ (false = true) by decide)] at H;exact H
  clear H;have H:=H1;clear H1
  obtain rfl:=Option.some.inj H
  go_enter Try.func18,Try.ntmps18
  go_wp2_with (first|((with_reducible refine gate_dst (N:=3) rfl ?_);refine box_event ?hg (N:=3) ?hd (cs:=#[.int .i64 a1_0,.int .i64 a1_1,.int .i64 a1_2]) (t:=29) ?hr ?_;(case hd => rfl);(case hg => rfl);(case hr => first|(go_simp;done)|(go_simp;rfl));intro gb313 hg w18 hbox hb;have n0_:=Aside0.mk (below_step (belU HB.out) hb);have n1_:=Aside0.mk (hbox);have n2_:=Aside0.mk ((by rw [hg];exact (below_size (belU HB.out)) : w.heap.size ≤ gb313));have n3_:=Aside0.mk ((by rw [hg];exact (below_size (belU HB.out)) : w.heap.size ≤ gb313));clear HB;have HB:=n0_;have BK313:=n1_;have GW313:=n2_;have GE313:=n3_;clear n0_ n1_ n2_ n3_ hb hbox hg)|((with_reducible refine gate_callee (f:=45) rfl ?_);refine goesL_ (some 6) rfl rfl Try.func45 (by kernel_rfl) rfl #[.slice A0 l0.length c0] rfl (by (try simp only [List.map_toArray,List.map_cons,List.map_nil]);first|done|rfl|(simp only [List.length_drop,List.length_take];rfl)) ?_;(with_reducible refine (impl_areCounts.calls _ _ l0 false _ ?side1 ?side2 A3.out).mono ?_);(case side1 => exact cU (Kd.C_below HR0.out HB.out));(case side2 => exact HC0.out);rintro e w19 ⟨rfl,hb⟩;refine ⟨_,rfl,?_⟩;have n0_:=Aside0.mk (blk_below (g:=gb313) (o:=.cells #[.int .i64 a1_0,.int .i64 a1_1,.int .i64 a1_2] 29 (0,0)) (blkU BK313.out) hb);have n1_:=Aside0.mk (below_step (by repeat (first|(with_reducible first|exact HB.out|apply below_alloc|apply pw_below_drewN|apply below_drew1|refine below_set ?_ GE313.out)|exact HB.out)) hb);clear BK313 HB;have BK313:=n0_;have HB:=n1_;clear n0_ n1_;(try clear hb);(try clear hb2);(try clear hk);(try clear hi)))
  go_ret
  exact ⟨by first|rfl|(simp [errW_none,errW_some] <;> rfl)|(simp [*,errW_none,errW_some] <;> rfl),by repeat (first|(with_reducible first|exact HB.out|apply below_alloc|apply pw_below_drewN|apply below_drew1|refine below_set ?_ GE313.out)|exact HB.out)⟩

/-! ### impl_CountsOk: function 26 -/
def impl_CountsOk.f (l0 : List Int) : Option (Bool):=(impl_areCounts.f l0).bind fun t317 => (some t317)
set_option maxHeartbeats 8000000 in
set_option maxRecDepth 100000 in
theorem impl_CountsOk.calls (A0 : Option Addr) (c0 : Nat) (l0 : List Int) (r : Bool) (w : World) (hr0 : Kd.C (Kd.int .i64) w A0 l0.length l0) (hc0 : l0.length ≤ c0) (h : impl_CountsOk.f l0 = some r) :
  Calls Try.prog 26 #[.slice A0 l0.length c0] w fun e w' => e = .returned (.bool r) ∧ Below w.heap.size w w':=by
 have HR0:=Aside0.mk hr0
 have HC0:=Aside0.mk hc0;clear hr0 hc0;have HB:=Aside0.mk (Below.refl w.heap.size w)
 have H : ((impl_areCounts.f l0).bind fun t317 => (some t317)) = some r:=h;clear h
 replace H:=Option.bind_eq_some_iff.mp H
 obtain ⟨t317,A20,H⟩:=H
 replace H : (some t317) = some r:=H
 have A2:=Aside0.mk A20;clear A20
 obtain rfl:=Option.some.inj H
 go_enter Try.func26,Try.ntmps26
 go_wp2_with (first|((with_reducible refine gate_callee (f:=45) rfl ?_);refine goesL_ (some 4) rfl rfl Try.func45 (by kernel_rfl) rfl #[.slice A0 l0.length c0] rfl (by (try simp only [List.map_toArray,List.map_cons,List.map_nil]);first|done|rfl|(simp only [List.length_drop,List.length_take];rfl)) ?_;(with_reducible refine (impl_areCounts.calls _ _ l0 t317 _ ?side1 ?side2 A2.out).mono ?_);(case side1 => repeat (first|exact HR0.out|(with_reducible refine Kd.C_alloc ?_ _)|(with_reducible refine Kd.C_drewN ?_ _)|(with_reducible refine Kd.C_drew ?_)));(case side2 => exact HC0.out);rintro e w3 ⟨rfl,hb⟩;refine ⟨_,rfl,?_⟩;have n0_:=Aside0.mk (below_step (belU HB.out) hb);clear HB;have HB:=n0_;clear n0_;(try clear hb);(try clear hb2);(try clear hk);(try clear hi)))
 go_ret
 exact ⟨by first|rfl|(simp [errW_none,errW_some] <;> rfl)|(simp [*,errW_none,errW_some] <;> rfl),belU HB.out⟩

end Go.Proofs.Ytmbninbecclbiaa.PA
