/- The machine side of functions of this seat, written by the session's program myprint.py: for each Go function a Lean function and the proof that the call answers just it. -/
import Derived.Test.YtmbninbecclbiaaPAx0
import Derived.Test.YtmbninbecclbiaaUp
import Derived.Test.YtmbninbecclbiaaPAx20
namespace Go.Proofs.Ytmbninbecclbiaa.PA
open Go.RowKit Go.Proofs.YtmbninbecclbiaaW.PrintWords Go.Proofs.YtmbninbecclbiaaW.PrintLast Go.Proofs.YtmbninbecclbiaaW.PrintMore
attribute [local go_sem] max2_int min2_int max_two min_two max_three min_three max_four min_four   -- for this text's walks alone
set_option linter.unusedVariables false
set_option linter.unusedSimpArgs false

/-! ### impl_contraryOf: function 58 -/
def impl_contraryOf.f (a0_0 : Int) (a0_1 : Int) (a0_2 : Int) : Option (Int × Int × Int):=if a0_0 = 0 then (some (1,a0_1,Go.bits .xor .i64 a0_2 1)) else (if a0_0 = 1 then (some (0,a0_1,Go.bits .xor .i64 a0_2 1)) else (if a0_0 = 2 then (some (3,a0_2,a0_1)) else (if a0_0 = 3 then (some (2,a0_2,a0_1)) else (if a0_0 = 4 then (some (5,a0_1,a0_2)) else (some (4,a0_1,a0_2))))))
set_option maxHeartbeats 8000000 in
set_option maxRecDepth 100000 in
theorem impl_contraryOf.calls (a0_0 : Int) (a0_1 : Int) (a0_2 : Int) (r1 : Int) (r2 : Int) (r3 : Int) (w : World) (h : impl_contraryOf.f a0_0 a0_1 a0_2 = some (r1,r2,r3)) :
  Calls Try.prog 58 #[.agg #[.int .i64 a0_0,.int .i64 a0_1,.int .i64 a0_2]] w fun e w' => e = .returned (.agg #[.int .i64 r1,.int .i64 r2,.int .i64 r3]) ∧ Below w.heap.size w w':=by
 have hu29:=Try.underlying29;have HB:=Aside0.mk (Below.refl w.heap.size w)
 have H : (if a0_0 = 0 then (some (1,a0_1,Go.bits .xor .i64 a0_2 1)) else (if a0_0 = 1 then (some (0,a0_1,Go.bits .xor .i64 a0_2 1)) else (if a0_0 = 2 then (some (3,a0_2,a0_1)) else (if a0_0 = 3 then (some (2,a0_2,a0_1)) else (if a0_0 = 4 then (some (5,a0_1,a0_2)) else (some (4,a0_1,a0_2))))))) = some (r1,r2,r3):=h;clear h
 by_cases c2 : a0_0 = 0
 ·
  rw [if_pos c2] at H
  have c2b0 : (a0_0 == 0) = true:=beq_iff_eq.mpr c2
  have c2b1 : (a0_0 != 0) = false:=bne_eq_false_iff_eq.mpr c2;clear c2
  simp only [Option.some.injEq,Prod.mk.injEq] at H
  obtain ⟨rfl,rfl,rfl⟩:=H
  go_enter Try.func58,Try.ntmps58
  go_wp2_with (first|((with_reducible refine gate_dst (N:=1) rfl ?_);refine box_event ?hg (N:=1) ?hd (cs:=#[.int .i64 a0_0,.int .i64 a0_1,.int .i64 a0_2]) (t:=29) ?hr ?_;(case hd => rfl);(case hg => rfl);(case hr => first|(go_simp;done)|(go_simp;rfl));intro gb318 hg w3 hbox hb;have n0_:=Aside0.mk (below_step (belU HB.out) hb);have n1_:=Aside0.mk (hbox);have n2_:=Aside0.mk ((by rw [hg];exact (below_size (belU HB.out)) : w.heap.size ≤ gb318));have n3_:=Aside0.mk ((by rw [hg];exact (below_size (belU HB.out)) : w.heap.size ≤ gb318));clear HB;have HB:=n0_;have BK318:=n1_;have GW318:=n2_;have GE318:=n3_;clear n0_ n1_ n2_ n3_ hb hbox hg)|((with_reducible refine gate_dst (N:=2) rfl ?_);refine box_event ?hg (N:=2) ?hd (cs:=#[.int .i64 0,.int .i64 0,.int .i64 0]) (t:=29) ?hr ?_;(case hd => rfl);(case hg => rfl);(case hr => first|(go_simp;done)|(go_simp;rfl));intro gb319 hg w4 hbox hb;have n0_:=Aside0.mk (blk_below (g:=gb318) (o:=.cells #[.int .i64 a0_0,.int .i64 a0_1,.int .i64 a0_2] 29 (0,0)) (blkU BK318.out) hb);have n1_:=Aside0.mk (below_step (by repeat (first|(with_reducible first|exact HB.out|apply below_alloc|apply pw_below_drewN|apply below_drew1|refine below_set ?_ GE318.out)|exact HB.out)) hb);have n2_:=Aside0.mk (hbox);have n3_:=Aside0.mk ((by rw [hg];exact (below_size (by repeat (first|(with_reducible first|exact HB.out|apply below_alloc|apply pw_below_drewN|apply below_drew1|refine below_set ?_ GE318.out)|exact HB.out))) : w.heap.size ≤ gb319));have n4_:=Aside0.mk ((by rw [hg];exact (below_size (by repeat (first|(with_reducible first|exact HB.out|apply below_alloc|apply pw_below_drewN|apply below_drew1|refine below_set ?_ GE318.out)|exact HB.out))) : w.heap.size ≤ gb319));have n5_:=Aside0.mk ((by rw [hg];exact Nat.ne_of_lt (blk_lt (g:=gb318) (o:=.cells #[.int .i64 a0_0,.int .i64 a0_1,.int .i64 a0_2] 29 (0,0)) (blkU BK318.out)) : gb318 ≠ gb319));have n6_:=Aside0.mk ((by rw [hg];exact Nat.ne_of_gt (blk_lt (g:=gb318) (o:=.cells #[.int .i64 a0_0,.int .i64 a0_1,.int .i64 a0_2] 29 (0,0)) (blkU BK318.out)) : gb319 ≠ gb318));clear BK318 HB;have BK318:=n0_;have HB:=n1_;have BK319:=n2_;have GW319:=n3_;have GE319:=n4_;have NB318_319:=n5_;have NB319_318:=n6_;clear n0_ n1_ n2_ n3_ n4_ n5_ n6_ hb hbox hg;have hnb5:=NB318_319.out;have hnc5:=NB319_318.out;have hcz6_0 : w4.cell? ⟨gb318,0,none⟩ = some (.int .i64 a0_0):=(blk_cell BK318.out 0).trans rfl;have hcz6_1 : w4.cell? ⟨gb318,1,none⟩ = some (.int .i64 a0_1):=(blk_cell BK318.out 1).trans rfl;have hcz6_2 : w4.cell? ⟨gb318,2,none⟩ = some (.int .i64 a0_2):=(blk_cell BK318.out 2).trans rfl;have hfz6_0:=blk_frozen BK318.out 0;have hfz6_1:=blk_frozen BK318.out 1;have hfz6_2:=blk_frozen BK318.out 2;have hcz7_0 : w4.cell? ⟨gb319,0,none⟩ = some (.int .i64 0):=(blk_cell BK319.out 0).trans rfl;have hcz7_1 : w4.cell? ⟨gb319,1,none⟩ = some (.int .i64 0):=(blk_cell BK319.out 1).trans rfl;have hcz7_2 : w4.cell? ⟨gb319,2,none⟩ = some (.int .i64 0):=(blk_cell BK319.out 2).trans rfl;have hfz7_0:=blk_frozen BK319.out 0;have hfz7_1:=blk_frozen BK319.out 1;have hfz7_2:=blk_frozen BK319.out 2))
  refine bodyPost_ret (results_cell_row rfl _ _ gb319 29 #[.int .i64 1,.int .i64 a0_1,.int .i64 (Go.bits .xor .i64 a0_2 1)] (0,0) _ rfl (by (with_reducible repeat (first|refine blk_drewN ?_ _|refine blk_drew ?_|refine blk_alloc ?_ _));refine blk_put (cs:=#[.int .i64 1,.int .i64 a0_1,.int .i64 0]) ?_ 2 _ rfl;(with_reducible repeat (first|refine blk_drewN ?_ _|refine blk_drew ?_|refine blk_alloc ?_ _));refine blk_put (cs:=#[.int .i64 1,.int .i64 0,.int .i64 0]) ?_ 1 _ rfl;(with_reducible repeat (first|refine blk_drewN ?_ _|refine blk_drew ?_|refine blk_alloc ?_ _));refine blk_put (cs:=#[.int .i64 0,.int .i64 0,.int .i64 0]) ?_ 0 _ rfl;(with_reducible repeat (first|refine blk_drewN ?_ _|refine blk_drew ?_|refine blk_alloc ?_ _));exact BK319.out) Try.underlying29 rfl (by kernel_rfl)) rfl ?_
  exact ⟨by first|rfl|(simp [errW_none,errW_some] <;> rfl)|(simp [*,errW_none,errW_some] <;> rfl),by repeat (first|(with_reducible first|exact HB.out|apply below_alloc|apply pw_below_drewN|apply below_drew1|refine below_set ?_ GE318.out|refine below_set ?_ GE319.out)|exact HB.out)⟩
 ·
  rw [if_neg c2] at H
  have c2b0 : (a0_0 == 0) = false:=beq_eq_false_iff_ne.mpr c2
  have c2b1 : (a0_0 != 0) = true:=bne_iff_ne.mpr c2
  by_cases c8 : a0_0 = 1
  ·
   rw [if_pos c8] at H
   have c8b0 : (a0_0 == 1) = true:=beq_iff_eq.mpr c8
   have c8b1 : (a0_0 != 1) = false:=bne_eq_false_iff_eq.mpr c8;clear c8
   simp only [Option.some.injEq,Prod.mk.injEq] at H
   obtain ⟨rfl,rfl,rfl⟩:=H
   go_enter Try.func58,Try.ntmps58
   go_wp2_with (first|((with_reducible refine gate_dst (N:=1) rfl ?_);refine box_event ?hg (N:=1) ?hd (cs:=#[.int .i64 a0_0,.int .i64 a0_1,.int .i64 a0_2]) (t:=29) ?hr ?_;(case hd => rfl);(case hg => rfl);(case hr => first|(go_simp;done)|(go_simp;rfl));intro gb318 hg w9 hbox hb;have n0_:=Aside0.mk (below_step (belU HB.out) hb);have n1_:=Aside0.mk (hbox);have n2_:=Aside0.mk ((by rw [hg];exact (below_size (belU HB.out)) : w.heap.size ≤ gb318));have n3_:=Aside0.mk ((by rw [hg];exact (below_size (belU HB.out)) : w.heap.size ≤ gb318));clear HB;have HB:=n0_;have BK318:=n1_;have GW318:=n2_;have GE318:=n3_;clear n0_ n1_ n2_ n3_ hb hbox hg)|((with_reducible refine gate_dst (N:=2) rfl ?_);refine box_event ?hg (N:=2) ?hd (cs:=#[.int .i64 0,.int .i64 0,.int .i64 0]) (t:=29) ?hr ?_;(case hd => rfl);(case hg => rfl);(case hr => first|(go_simp;done)|(go_simp;rfl));intro gb319 hg w10 hbox hb;have n0_:=Aside0.mk (blk_below (g:=gb318) (o:=.cells #[.int .i64 a0_0,.int .i64 a0_1,.int .i64 a0_2] 29 (0,0)) (blkU BK318.out) hb);have n1_:=Aside0.mk (below_step (by repeat (first|(with_reducible first|exact HB.out|apply below_alloc|apply pw_below_drewN|apply below_drew1|refine below_set ?_ GE318.out)|exact HB.out)) hb);have n2_:=Aside0.mk (hbox);have n3_:=Aside0.mk ((by rw [hg];exact (below_size (by repeat (first|(with_reducible first|exact HB.out|apply below_alloc|apply pw_below_drewN|apply below_drew1|refine below_set ?_ GE318.out)|exact HB.out))) : w.heap.size ≤ gb319));have n4_:=Aside0.mk ((by rw [hg];exact (below_size (by repeat (first|(with_reducible first|exact HB.out|apply below_alloc|apply pw_below_drewN|apply below_drew1|refine below_set ?_ GE318.out)|exact HB.out))) : w.heap.size ≤ gb319));have n5_:=Aside0.mk ((by rw [hg];exact Nat.ne_of_lt (blk_lt (g:=gb318) (o:=.cells #[.int .i64 a0_0,.int .i64 a0_1,.int .i64 a0_2] 29 (0,0)) (blkU BK318.out)) : gb318 ≠ gb319));have n6_:=Aside0.mk ((by rw [hg];exact Nat.ne_of_gt (blk_lt (g:=gb318) (o:=.cells #[.int .i64 a0_0,.int .i64 a0_1,.int .i64 a0_2] 29 (0,0)) (blkU BK318.out)) : gb319 ≠ gb318));clear BK318 HB;have BK318:=n0_;have HB:=n1_;have BK319:=n2_;have GW319:=n3_;have GE319:=n4_;have NB318_319:=n5_;have NB319_318:=n6_;clear n0_ n1_ n2_ n3_ n4_ n5_ n6_ hb hbox hg;have hnb11:=NB318_319.out;have hnc11:=NB319_318.out;have hcz12_0 : w10.cell? ⟨gb318,0,none⟩ = some (.int .i64 a0_0):=(blk_cell BK318.out 0).trans rfl;have hcz12_1 : w10.cell? ⟨gb318,1,none⟩ = some (.int .i64 a0_1):=(blk_cell BK318.out 1).trans rfl;have hcz12_2 : w10.cell? ⟨gb318,2,none⟩ = some (.int .i64 a0_2):=(blk_cell BK318.out 2).trans rfl;have hfz12_0:=blk_frozen BK318.out 0;have hfz12_1:=blk_frozen BK318.out 1;have hfz12_2:=blk_frozen BK318.out 2;have hcz13_0 : w10.cell? ⟨gb319,0,none⟩ = some (.int .i64 0):=(blk_cell BK319.out 0).trans rfl;have hcz13_1 : w10.cell? ⟨gb319,1,none⟩ = some (.int .i64 0):=(blk_cell BK319.out 1).trans rfl;have hcz13_2 : w10.cell? ⟨gb319,2,none⟩ = some (.int .i64 0):=(blk_cell BK319.out 2).trans rfl;have hfz13_0:=blk_frozen BK319.out 0;have hfz13_1:=blk_frozen BK319.out 1;have hfz13_2:=blk_frozen BK319.out 2))
   refine bodyPost_ret (results_cell_row rfl _ _ gb319 29 #[.int .i64 0,.int .i64 a0_1,.int .i64 (Go.bits .xor .i64 a0_2 1)] (0,0) _ rfl (by (with_reducible repeat (first|refine blk_drewN ?_ _|refine blk_drew ?_|refine blk_alloc ?_ _));refine blk_put (cs:=#[.int .i64 0,.int .i64 a0_1,.int .i64 0]) ?_ 2 _ rfl;(with_reducible repeat (first|refine blk_drewN ?_ _|refine blk_drew ?_|refine blk_alloc ?_ _));refine blk_put (cs:=#[.int .i64 0,.int .i64 0,.int .i64 0]) ?_ 1 _ rfl;(with_reducible repeat (first|refine blk_drewN ?_ _|refine blk_drew ?_|refine blk_alloc ?_ _));refine blk_put (cs:=#[.int .i64 0,.int .i64 0,.int .i64 0]) ?_ 0 _ rfl;(with_reducible repeat (first|refine blk_drewN ?_ _|refine blk_drew ?_|refine blk_alloc ?_ _));exact BK319.out) Try.underlying29 rfl (by kernel_rfl)) rfl ?_
   exact ⟨by first|rfl|(simp [errW_none,errW_some] <;> rfl)|(simp [*,errW_none,errW_some] <;> rfl),by repeat (first|(with_reducible first|exact HB.out|apply below_alloc|apply pw_below_drewN|apply below_drew1|refine below_set ?_ GE318.out|refine below_set ?_ GE319.out)|exact HB.out)⟩
  ·
   rw [if_neg c8] at H
   have c8b0 : (a0_0 == 1) = false:=beq_eq_false_iff_ne.mpr c8
   have c8b1 : (a0_0 != 1) = true:=bne_iff_ne.mpr c8
   by_cases c14 : a0_0 = 2
   ·
    rw [if_pos c14] at H
    have c14b0 : (a0_0 == 2) = true:=beq_iff_eq.mpr c14
    have c14b1 : (a0_0 != 2) = false:=bne_eq_false_iff_eq.mpr c14;clear c14
    simp only [Option.some.injEq,Prod.mk.injEq] at H
    obtain ⟨rfl,rfl,rfl⟩:=H
    go_enter Try.func58,Try.ntmps58
    go_wp2_with (first|((with_reducible refine gate_dst (N:=1) rfl ?_);refine box_event ?hg (N:=1) ?hd (cs:=#[.int .i64 a0_0,.int .i64 a0_1,.int .i64 a0_2]) (t:=29) ?hr ?_;(case hd => rfl);(case hg => rfl);(case hr => first|(go_simp;done)|(go_simp;rfl));intro gb318 hg w15 hbox hb;have n0_:=Aside0.mk (below_step (belU HB.out) hb);have n1_:=Aside0.mk (hbox);have n2_:=Aside0.mk ((by rw [hg];exact (below_size (belU HB.out)) : w.heap.size ≤ gb318));have n3_:=Aside0.mk ((by rw [hg];exact (below_size (belU HB.out)) : w.heap.size ≤ gb318));clear HB;have HB:=n0_;have BK318:=n1_;have GW318:=n2_;have GE318:=n3_;clear n0_ n1_ n2_ n3_ hb hbox hg)|((with_reducible refine gate_dst (N:=2) rfl ?_);refine box_event ?hg (N:=2) ?hd (cs:=#[.int .i64 0,.int .i64 0,.int .i64 0]) (t:=29) ?hr ?_;(case hd => rfl);(case hg => rfl);(case hr => first|(go_simp;done)|(go_simp;rfl));intro gb319 hg w16 hbox hb;have n0_:=Aside0.mk (blk_below (g:=gb318) (o:=.cells #[.int .i64 a0_0,.int .i64 a0_1,.int .i64 a0_2] 29 (0,0)) (blkU BK318.out) hb);have n1_:=Aside0.mk (below_step (by repeat (first|(with_reducible first|exact HB.out|apply below_alloc|apply pw_below_drewN|apply below_drew1|refine below_set ?_ GE318.out)|exact HB.out)) hb);have n2_:=Aside0.mk (hbox);have n3_:=Aside0.mk ((by rw [hg];exact (below_size (by repeat (first|(with_reducible first|exact HB.out|apply below_alloc|apply pw_below_drewN|apply below_drew1|refine below_set ?_ GE318.out)|exact HB.out))) : w.heap.size ≤ gb319));have n4_:=Aside0.mk ((by rw [hg];exact (below_size (by repeat (first|(with_reducible first|exact HB.out|apply below_alloc|apply pw_below_drewN|apply below_drew1|refine below_set ?_ GE318.out)|exact HB.out))) : w.heap.size ≤ gb319));have n5_:=Aside0.mk ((by rw [hg];exact Nat.ne_of_lt (blk_lt (g:=gb318) (o:=.cells #[.int .i64 a0_0,.int .i64 a0_1,.int .i64 a0_2] 29 (0,0)) (blkU BK318.out)) : gb318 ≠ gb319));have n6_:=Aside0.mk ((by rw [hg];exact Nat.ne_of_gt (blk_lt (g:=gb318) (o:=.cells #[.int .i64 a0_0,.int .i64 a0_1,.int .i64 a0_2] 29 (0,0)) (blkU BK318.out)) : gb319 ≠ gb318));clear BK318 HB;have BK318:=n0_;have HB:=n1_;have BK319:=n2_;have GW319:=n3_;have GE319:=n4_;have NB318_319:=n5_;have NB319_318:=n6_;clear n0_ n1_ n2_ n3_ n4_ n5_ n6_ hb hbox hg;have hnb17:=NB318_319.out;have hnc17:=NB319_318.out;have hcz18_0 : w16.cell? ⟨gb318,0,none⟩ = some (.int .i64 a0_0):=(blk_cell BK318.out 0).trans rfl;have hcz18_1 : w16.cell? ⟨gb318,1,none⟩ = some (.int .i64 a0_1):=(blk_cell BK318.out 1).trans rfl;have hcz18_2 : w16.cell? ⟨gb318,2,none⟩ = some (.int .i64 a0_2):=(blk_cell BK318.out 2).trans rfl;have hfz18_0:=blk_frozen BK318.out 0;have hfz18_1:=blk_frozen BK318.out 1;have hfz18_2:=blk_frozen BK318.out 2;have hcz19_0 : w16.cell? ⟨gb319,0,none⟩ = some (.int .i64 0):=(blk_cell BK319.out 0).trans rfl;have hcz19_1 : w16.cell? ⟨gb319,1,none⟩ = some (.int .i64 0):=(blk_cell BK319.out 1).trans rfl;have hcz19_2 : w16.cell? ⟨gb319,2,none⟩ = some (.int .i64 0):=(blk_cell BK319.out 2).trans rfl;have hfz19_0:=blk_frozen BK319.out 0;have hfz19_1:=blk_frozen BK319.out 1;have hfz19_2:=blk_frozen BK319.out 2))
    refine bodyPost_ret (results_cell_row rfl _ _ gb319 29 #[.int .i64 3,.int .i64 a0_2,.int .i64 a0_1] (0,0) _ rfl (by (with_reducible repeat (first|refine blk_drewN ?_ _|refine blk_drew ?_|refine blk_alloc ?_ _));refine blk_put (cs:=#[.int .i64 3,.int .i64 a0_2,.int .i64 0]) ?_ 2 _ rfl;(with_reducible repeat (first|refine blk_drewN ?_ _|refine blk_drew ?_|refine blk_alloc ?_ _));refine blk_put (cs:=#[.int .i64 3,.int .i64 0,.int .i64 0]) ?_ 1 _ rfl;(with_reducible repeat (first|refine blk_drewN ?_ _|refine blk_drew ?_|refine blk_alloc ?_ _));refine blk_put (cs:=#[.int .i64 0,.int .i64 0,.int .i64 0]) ?_ 0 _ rfl;(with_reducible repeat (first|refine blk_drewN ?_ _|refine blk_drew ?_|refine blk_alloc ?_ _));exact BK319.out) Try.underlying29 rfl (by kernel_rfl)) rfl ?_
    exact ⟨by first|rfl|(simp [errW_none,errW_some] <;> rfl)|(simp [*,errW_none,errW_some] <;> rfl),by repeat (first|(with_reducible first|exact HB.out|apply below_alloc|apply pw_below_drewN|apply below_drew1|refine below_set ?_ GE318.out|refine below_set ?_ GE319.out)|exact HB.out)⟩
   ·
    rw [if_neg c14] at H
    have c14b0 : (a0_0 == 2) = false:=beq_eq_false_iff_ne.mpr c14
    have c14b1 : (a0_0 != 2) = true:=bne_iff_ne.mpr c14
    by_cases c20 : a0_0 = 3
    ·
     rw [if_pos c20] at H
     have c20b0 : (a0_0 == 3) = true:=beq_iff_eq.mpr c20
     have c20b1 : (a0_0 != 3) = false:=bne_eq_false_iff_eq.mpr c20;clear c20
     simp only [Option.some.injEq,Prod.mk.injEq] at H
     obtain ⟨rfl,rfl,rfl⟩:=H
     go_enter Try.func58,Try.ntmps58
     go_wp2_with (first|((with_reducible refine gate_dst (N:=1) rfl ?_);refine box_event ?hg (N:=1) ?hd (cs:=#[.int .i64 a0_0,.int .i64 a0_1,.int .i64 a0_2]) (t:=29) ?hr ?_;(case hd => rfl);(case hg => rfl);(case hr => first|(go_simp;done)|(go_simp;rfl));intro gb318 hg w21 hbox hb;have n0_:=Aside0.mk (below_step (belU HB.out) hb);have n1_:=Aside0.mk (hbox);have n2_:=Aside0.mk ((by rw [hg];exact (below_size (belU HB.out)) : w.heap.size ≤ gb318));have n3_:=Aside0.mk ((by rw [hg];exact (below_size (belU HB.out)) : w.heap.size ≤ gb318));clear HB;have HB:=n0_;have BK318:=n1_;have GW318:=n2_;have GE318:=n3_;clear n0_ n1_ n2_ n3_ hb hbox hg)|((with_reducible refine gate_dst (N:=2) rfl ?_);refine box_event ?hg (N:=2) ?hd (cs:=#[.int .i64 0,.int .i64 0,.int .i64 0]) (t:=29) ?hr ?_;(case hd => rfl);(case hg => rfl);(case hr => first|(go_simp;done)|(go_simp;rfl));intro gb319 hg w22 hbox hb;have n0_:=Aside0.mk (blk_below (g:=gb318) (o:=.cells #[.int .i64 a0_0,.int .i64 a0_1,.int .i64 a0_2] 29 (0,0)) (blkU BK318.out) hb);have n1_:=Aside0.mk (below_step (by repeat (first|(with_reducible first|exact HB.out|apply below_alloc|apply pw_below_drewN|apply below_drew1|refine below_set ?_ GE318.out)|exact HB.out)) hb);have n2_:=Aside0.mk (hbox);have n3_:=Aside0.mk ((by rw [hg];exact (below_size (by repeat (first|(with_reducible first|exact HB.out|apply below_alloc|apply pw_below_drewN|apply below_drew1|refine below_set ?_ GE318.out)|exact HB.out))) : w.heap.size ≤ gb319));have n4_:=Aside0.mk ((by rw [hg];exact (below_size (by repeat (first|(with_reducible first|exact HB.out|apply below_alloc|apply pw_below_drewN|apply below_drew1|refine below_set ?_ GE318.out)|exact HB.out))) : w.heap.size ≤ gb319));have n5_:=Aside0.mk ((by rw [hg];exact Nat.ne_of_lt (blk_lt (g:=gb318) (o:=.cells #[.int .i64 a0_0,.int .i64 a0_1,.int .i64 a0_2] 29 (0,0)) (blkU BK318.out)) : gb318 ≠ gb319));have n6_:=Aside0.mk ((by rw [hg];exact Nat.ne_of_gt (blk_lt (g:=gb318) (o:=.cells #[.int .i64 a0_0,.int .i64 a0_1,.int .i64 a0_2] 29 (0,0)) (blkU BK318.out)) : gb319 ≠ gb318));clear BK318 HB;have BK318:=n0_;have HB:=n1_;have BK319:=n2_;have GW319:=n3_;have GE319:=n4_;have NB318_319:=n5_;have NB319_318:=n6_;clear n0_ n1_ n2_ n3_ n4_ n5_ n6_ hb hbox hg;have hnb23:=NB318_319.out;have hnc23:=NB319_318.out;have hcz24_0 : w22.cell? ⟨gb318,0,none⟩ = some (.int .i64 a0_0):=(blk_cell BK318.out 0).trans rfl;have hcz24_1 : w22.cell? ⟨gb318,1,none⟩ = some (.int .i64 a0_1):=(blk_cell BK318.out 1).trans rfl;have hcz24_2 : w22.cell? ⟨gb318,2,none⟩ = some (.int .i64 a0_2):=(blk_cell BK318.out 2).trans rfl;have hfz24_0:=blk_frozen BK318.out 0;have hfz24_1:=blk_frozen BK318.out 1;have hfz24_2:=blk_frozen BK318.out 2;have hcz25_0 : w22.cell? ⟨gb319,0,none⟩ = some (.int .i64 0):=(blk_cell BK319.out 0).trans rfl;have hcz25_1 : w22.cell? ⟨gb319,1,none⟩ = some (.int .i64 0):=(blk_cell BK319.out 1).trans rfl;have hcz25_2 : w22.cell? ⟨gb319,2,none⟩ = some (.int .i64 0):=(blk_cell BK319.out 2).trans rfl;have hfz25_0:=blk_frozen BK319.out 0;have hfz25_1:=blk_frozen BK319.out 1;have hfz25_2:=blk_frozen BK319.out 2))
     refine bodyPost_ret (results_cell_row rfl _ _ gb319 29 #[.int .i64 2,.int .i64 a0_2,.int .i64 a0_1] (0,0) _ rfl (by (with_reducible repeat (first|refine blk_drewN ?_ _|refine blk_drew ?_|refine blk_alloc ?_ _));refine blk_put (cs:=#[.int .i64 2,.int .i64 a0_2,.int .i64 0]) ?_ 2 _ rfl;(with_reducible repeat (first|refine blk_drewN ?_ _|refine blk_drew ?_|refine blk_alloc ?_ _));refine blk_put (cs:=#[.int .i64 2,.int .i64 0,.int .i64 0]) ?_ 1 _ rfl;(with_reducible repeat (first|refine blk_drewN ?_ _|refine blk_drew ?_|refine blk_alloc ?_ _));refine blk_put (cs:=#[.int .i64 0,.int .i64 0,.int .i64 0]) ?_ 0 _ rfl;(with_reducible repeat (first|refine blk_drewN ?_ _|refine blk_drew ?_|refine blk_alloc ?_ _));exact BK319.out) Try.underlying29 rfl (by kernel_rfl)) rfl ?_
     exact ⟨by first|rfl|(simp [errW_none,errW_some] <;> rfl)|(simp [*,errW_none,errW_some] <;> rfl),by repeat (first|(with_reducible first|exact HB.out|apply below_alloc|apply pw_below_drewN|apply below_drew1|refine below_set ?_ GE318.out|refine below_set ?_ GE319.out)|exact HB.out)⟩
    ·
     rw [if_neg c20] at H
     have c20b0 : (a0_0 == 3) = false:=beq_eq_false_iff_ne.mpr c20
     have c20b1 : (a0_0 != 3) = true:=bne_iff_ne.mpr c20
     by_cases c26 : a0_0 = 4
     ·
      rw [if_pos c26] at H
      have c26b0 : (a0_0 == 4) = true:=beq_iff_eq.mpr c26
      have c26b1 : (a0_0 != 4) = false:=bne_eq_false_iff_eq.mpr c26;clear c26
      simp only [Option.some.injEq,Prod.mk.injEq] at H
      obtain ⟨rfl,rfl,rfl⟩:=H
      go_enter Try.func58,Try.ntmps58
      go_wp2_with (first|((with_reducible refine gate_dst (N:=1) rfl ?_);refine box_event ?hg (N:=1) ?hd (cs:=#[.int .i64 a0_0,.int .i64 a0_1,.int .i64 a0_2]) (t:=29) ?hr ?_;(case hd => rfl);(case hg => rfl);(case hr => first|(go_simp;done)|(go_simp;rfl));intro gb318 hg w27 hbox hb;have n0_:=Aside0.mk (below_step (belU HB.out) hb);have n1_:=Aside0.mk (hbox);have n2_:=Aside0.mk ((by rw [hg];exact (below_size (belU HB.out)) : w.heap.size ≤ gb318));have n3_:=Aside0.mk ((by rw [hg];exact (below_size (belU HB.out)) : w.heap.size ≤ gb318));clear HB;have HB:=n0_;have BK318:=n1_;have GW318:=n2_;have GE318:=n3_;clear n0_ n1_ n2_ n3_ hb hbox hg)|((with_reducible refine gate_dst (N:=2) rfl ?_);refine box_event ?hg (N:=2) ?hd (cs:=#[.int .i64 0,.int .i64 0,.int .i64 0]) (t:=29) ?hr ?_;(case hd => rfl);(case hg => rfl);(case hr => first|(go_simp;done)|(go_simp;rfl));intro gb319 hg w28 hbox hb;have n0_:=Aside0.mk (blk_below (g:=gb318) (o:=.cells #[.int .i64 a0_0,.int .i64 a0_1,.int .i64 a0_2] 29 (0,0)) (blkU BK318.out) hb);have n1_:=Aside0.mk (below_step (by repeat (first|(with_reducible first|exact HB.out|apply below_alloc|apply pw_below_drewN|apply below_drew1|refine below_set ?_ GE318.out)|exact HB.out)) hb);have n2_:=Aside0.mk (hbox);have n3_:=Aside0.mk ((by rw [hg];exact (below_size (by repeat (first|(with_reducible first|exact HB.out|apply below_alloc|apply pw_below_drewN|apply below_drew1|refine below_set ?_ GE318.out)|exact HB.out))) : w.heap.size ≤ gb319));have n4_:=Aside0.mk ((by rw [hg];exact (below_size (by repeat (first|(with_reducible first|exact HB.out|apply below_alloc|apply pw_below_drewN|apply below_drew1|refine below_set ?_ GE318.out)|exact HB.out))) : w.heap.size ≤ gb319));have n5_:=Aside0.mk ((by rw [hg];exact Nat.ne_of_lt (blk_lt (g:=gb318) (o:=.cells #[.int .i64 a0_0,.int .i64 a0_1,.int .i64 a0_2] 29 (0,0)) (blkU BK318.out)) : gb318 ≠ gb319));have n6_:=Aside0.mk ((by rw [hg];exact Nat.ne_of_gt (blk_lt (g:=gb318) (o:=.cells #[.int .i64 a0_0,.int .i64 a0_1,.int .i64 a0_2] 29 (0,0)) (blkU BK318.out)) : gb319 ≠ gb318));clear BK318 HB;have BK318:=n0_;have HB:=n1_;have BK319:=n2_;have GW319:=n3_;have GE319:=n4_;have NB318_319:=n5_;have NB319_318:=n6_;clear n0_ n1_ n2_ n3_ n4_ n5_ n6_ hb hbox hg;have hnb29:=NB318_319.out;have hnc29:=NB319_318.out;have hcz30_0 : w28.cell? ⟨gb318,0,none⟩ = some (.int .i64 a0_0):=(blk_cell BK318.out 0).trans rfl;have hcz30_1 : w28.cell? ⟨gb318,1,none⟩ = some (.int .i64 a0_1):=(blk_cell BK318.out 1).trans rfl;have hcz30_2 : w28.cell? ⟨gb318,2,none⟩ = some (.int .i64 a0_2):=(blk_cell BK318.out 2).trans rfl;have hfz30_0:=blk_frozen BK318.out 0;have hfz30_1:=blk_frozen BK318.out 1;have hfz30_2:=blk_frozen BK318.out 2;have hcz31_0 : w28.cell? ⟨gb319,0,none⟩ = some (.int .i64 0):=(blk_cell BK319.out 0).trans rfl;have hcz31_1 : w28.cell? ⟨gb319,1,none⟩ = some (.int .i64 0):=(blk_cell BK319.out 1).trans rfl;have hcz31_2 : w28.cell? ⟨gb319,2,none⟩ = some (.int .i64 0):=(blk_cell BK319.out 2).trans rfl;have hfz31_0:=blk_frozen BK319.out 0;have hfz31_1:=blk_frozen BK319.out 1;have hfz31_2:=blk_frozen BK319.out 2))
      refine bodyPost_ret (results_cell_row rfl _ _ gb319 29 #[.int .i64 5,.int .i64 a0_1,.int .i64 a0_2] (0,0) _ rfl (by (with_reducible repeat (first|refine blk_drewN ?_ _|refine blk_drew ?_|refine blk_alloc ?_ _));refine blk_put (cs:=#[.int .i64 5,.int .i64 a0_1,.int .i64 0]) ?_ 2 _ rfl;(with_reducible repeat (first|refine blk_drewN ?_ _|refine blk_drew ?_|refine blk_alloc ?_ _));refine blk_put (cs:=#[.int .i64 5,.int .i64 0,.int .i64 0]) ?_ 1 _ rfl;(with_reducible repeat (first|refine blk_drewN ?_ _|refine blk_drew ?_|refine blk_alloc ?_ _));refine blk_put (cs:=#[.int .i64 0,.int .i64 0,.int .i64 0]) ?_ 0 _ rfl;(with_reducible repeat (first|refine blk_drewN ?_ _|refine blk_drew ?_|refine blk_alloc ?_ _));exact BK319.out) Try.underlying29 rfl (by kernel_rfl)) rfl ?_
      exact ⟨by first|rfl|(simp [errW_none,errW_some] <;> rfl)|(simp [*,errW_none,errW_some] <;> rfl),by repeat (first|(with_reducible first|exact HB.out|apply below_alloc|apply pw_below_drewN|apply below_drew1|refine below_set ?_ GE318.out|refine below_set ?_ GE319.out)|exact HB.out)⟩
     ·
      rw [if_neg c26] at H
      have c26b0 : (a0_0 == 4) = false:=beq_eq_false_iff_ne.mpr c26
      have c26b1 : (a0_0 != 4) = true:=bne_iff_ne.mpr c26
      simp only [Option.some.injEq,Prod.mk.injEq] at H
      obtain ⟨rfl,rfl,rfl⟩:=H
      go_enter Try.func58,Try.ntmps58
      go_wp2_with (first|((with_reducible refine gate_dst (N:=1) rfl ?_);refine box_event ?hg (N:=1) ?hd (cs:=#[.int .i64 a0_0,.int .i64 a0_1,.int .i64 a0_2]) (t:=29) ?hr ?_;(case hd => rfl);(case hg => rfl);(case hr => first|(go_simp;done)|(go_simp;rfl));intro gb318 hg w32 hbox hb;have n0_:=Aside0.mk (below_step (belU HB.out) hb);have n1_:=Aside0.mk (hbox);have n2_:=Aside0.mk ((by rw [hg];exact (below_size (belU HB.out)) : w.heap.size ≤ gb318));have n3_:=Aside0.mk ((by rw [hg];exact (below_size (belU HB.out)) : w.heap.size ≤ gb318));clear HB;have HB:=n0_;have BK318:=n1_;have GW318:=n2_;have GE318:=n3_;clear n0_ n1_ n2_ n3_ hb hbox hg)|((with_reducible refine gate_dst (N:=2) rfl ?_);refine box_event ?hg (N:=2) ?hd (cs:=#[.int .i64 0,.int .i64 0,.int .i64 0]) (t:=29) ?hr ?_;(case hd => rfl);(case hg => rfl);(case hr => first|(go_simp;done)|(go_simp;rfl));intro gb319 hg w33 hbox hb;have n0_:=Aside0.mk (blk_below (g:=gb318) (o:=.cells #[.int .i64 a0_0,.int .i64 a0_1,.int .i64 a0_2] 29 (0,0)) (blkU BK318.out) hb);have n1_:=Aside0.mk (below_step (by repeat (first|(with_reducible first|exact HB.out|apply below_alloc|apply pw_below_drewN|apply below_drew1|refine below_set ?_ GE318.out)|exact HB.out)) hb);have n2_:=Aside0.mk (hbox);have n3_:=Aside0.mk ((by rw [hg];exact (below_size (by repeat (first|(with_reducible first|exact HB.out|apply below_alloc|apply pw_below_drewN|apply below_drew1|refine below_set ?_ GE318.out)|exact HB.out))) : w.heap.size ≤ gb319));have n4_:=Aside0.mk ((by rw [hg];exact (below_size (by repeat (first|(with_reducible first|exact HB.out|apply below_alloc|apply pw_below_drewN|apply below_drew1|refine below_set ?_ GE318.out)|exact HB.out))) : w.heap.size ≤ gb319));have n5_:=Aside0.mk ((by rw [hg];exact Nat.ne_of_lt (blk_lt (g:=gb318) (o:=.cells #[.int .i64 a0_0,.int .i64 a0_1,.int .i64 a0_2] 29 (0,0)) (blkU BK318.out)) : gb318 ≠ gb319));have n6_:=Aside0.mk ((by rw [hg];exact Nat.ne_of_gt (blk_lt (g:=gb318) (o:=.cells #[.int .i64 a0_0,.int .i64 a0_1,.int .i64 a0_2] 29 (0,0)) (blkU BK318.out)) : gb319 ≠ gb318));clear BK318 HB;have BK318:=n0_;have HB:=n1_;have BK319:=n2_;have GW319:=n3_;have GE319:=n4_;have NB318_319:=n5_;have NB319_318:=n6_;clear n0_ n1_ n2_ n3_ n4_ n5_ n6_ hb hbox hg;have hnb34:=NB318_319.out;have hnc34:=NB319_318.out;have hcz35_0 : w33.cell? ⟨gb318,0,none⟩ = some (.int .i64 a0_0):=(blk_cell BK318.out 0).trans rfl;have hcz35_1 : w33.cell? ⟨gb318,1,none⟩ = some (.int .i64 a0_1):=(blk_cell BK318.out 1).trans rfl;have hcz35_2 : w33.cell? ⟨gb318,2,none⟩ = some (.int .i64 a0_2):=(blk_cell BK318.out 2).trans rfl;have hfz35_0:=blk_frozen BK318.out 0;have hfz35_1:=blk_frozen BK318.out 1;have hfz35_2:=blk_frozen BK318.out 2;have hcz36_0 : w33.cell? ⟨gb319,0,none⟩ = some (.int .i64 0):=(blk_cell BK319.out 0).trans rfl;have hcz36_1 : w33.cell? ⟨gb319,1,none⟩ = some (.int .i64 0):=(blk_cell BK319.out 1).trans rfl;have hcz36_2 : w33.cell? ⟨gb319,2,none⟩ = some (.int .i64 0):=(blk_cell BK319.out 2).trans rfl;have hfz36_0:=blk_frozen BK319.out 0;have hfz36_1:=blk_frozen BK319.out 1;have hfz36_2:=blk_frozen BK319.out 2))
      refine bodyPost_ret (results_cell_row rfl _ _ gb319 29 #[.int .i64 4,.int .i64 a0_1,.int .i64 a0_2] (0,0) _ rfl (by (with_reducible repeat (first|refine blk_drewN ?_ _|refine blk_drew ?_|refine blk_alloc ?_ _));refine blk_put (cs:=#[.int .i64 4,.int .i64 a0_1,.int .i64 0]) ?_ 2 _ rfl;(with_reducible repeat (first|refine blk_drewN ?_ _|refine blk_drew ?_|refine blk_alloc ?_ _));refine blk_put (cs:=#[.int .i64 4,.int .i64 0,.int .i64 0]) ?_ 1 _ rfl;(with_reducible repeat (first|refine blk_drewN ?_ _|refine blk_drew ?_|refine blk_alloc ?_ _));refine blk_put (cs:=#[.int .i64 0,.int .i64 0,.int .i64 0]) ?_ 0 _ rfl;(with_reducible repeat (first|refine blk_drewN ?_ _|refine blk_drew ?_|refine blk_alloc ?_ _));exact BK319.out) Try.underlying29 rfl (by kernel_rfl)) rfl ?_
      exact ⟨by first|rfl|(simp [errW_none,errW_some] <;> rfl)|(simp [*,errW_none,errW_some] <;> rfl),by repeat (first|(with_reducible first|exact HB.out|apply below_alloc|apply pw_below_drewN|apply below_drew1|refine below_set ?_ GE318.out|refine below_set ?_ GE319.out)|exact HB.out)⟩

/-! ### impl_weighFollows: function 38 -/
def impl_weighFollows.f (l0 : List (S29)) (a1_0 : Int) (a1_1 : Int) (a1_2 : Int) : Option (Bool):=(some (([] : List (S29)) : List (S29))).bind fun y321 => (if y321.length + l0.length < 5864062014805 then ((some (y321 ++ l0 : List (S29))).bind fun y324 => ((impl_contraryOf.f a1_0 a1_1 a1_2).bind fun bt327 => (if y324.length < 5864062014805 then ((impl_countsFor.f (y324 ++ [(⟨bt327.1,bt327.2.1,bt327.2.2⟩ : S29)])).bind fun bt333 => (some (!bt333.2))) else (none)))) else (none))
def impl_weighFollows.T1 : Bool × List (List Nat × List Nat):=(true,[([],[]),([],[]),([0,1],[0,1]),([],[]),([3,2],[3]),([4],[4]),([2,5,4],[2,5]),([6,6],[6]),([7],[7]),([8],[8]),([8],[8]),([9,7,0,1,2,3,4,5,6,7,8,9],[9]),([10,11,0,1,2,3,4,5,6,7,8,9,10,11],[10])])
def impl_weighFollows.B1 : List Nat:=[0,0,3,0,15,31,63,127,255,511,511,1023,4095]
theorem impl_weighFollows.tab1 : rtab .any (opsOf Try.f38 1) = impl_weighFollows.T1:=by kernel_rfl
theorem impl_weighFollows.bits1 : waitsOk impl_weighFollows.T1.2 impl_weighFollows.B1 = true:=by kernel_rfl
set_option maxHeartbeats 8000000 in
set_option maxRecDepth 100000 in
theorem impl_weighFollows.calls (A0 : Option Addr) (c0 : Nat) (l0 : List (S29)) (a1_0 : Int) (a1_1 : Int) (a1_2 : Int) (r : Bool) (w : World) (hr0 : Kd.C k29 w A0 l0.length l0) (hc0 : l0.length ≤ c0) (h : impl_weighFollows.f l0 a1_0 a1_1 a1_2 = some r) :
  Calls Try.prog 38 #[.slice A0 l0.length c0,.agg #[.int .i64 a1_0,.int .i64 a1_1,.int .i64 a1_2]] w fun e w' => e = .returned (.bool r) ∧ Below w.heap.size w w':=by
 have hu29:=Try.underlying29
 have HR0:=Aside0.mk hr0
 have HC0:=Aside0.mk hc0;clear hr0 hc0;have HB:=Aside0.mk (Below.refl w.heap.size w)
 have H : ((some (([] : List (S29)) : List (S29))).bind fun y321 => (if y321.length + l0.length < 5864062014805 then ((some (y321 ++ l0 : List (S29))).bind fun y324 => ((impl_contraryOf.f a1_0 a1_1 a1_2).bind fun bt327 => (if y324.length < 5864062014805 then ((impl_countsFor.f (y324 ++ [(⟨bt327.1,bt327.2.1,bt327.2.2⟩ : S29)])).bind fun bt333 => (some (!bt333.2))) else (none)))) else (none))) = some r:=h;clear h
 obtain ⟨y321,hy321⟩ : ∃ y_ : List (S29),y_ = (([] : List (S29))):=⟨_,rfl⟩
 replace H : (if y321.length + l0.length < 5864062014805 then ((some (y321 ++ l0 : List (S29))).bind fun y324 => ((impl_contraryOf.f a1_0 a1_1 a1_2).bind fun bt327 => (if y324.length < 5864062014805 then ((impl_countsFor.f (y324 ++ [(⟨bt327.1,bt327.2.1,bt327.2.2⟩ : S29)])).bind fun bt333 => (some (!bt333.2))) else (none)))) else (none)) = some r:=by first|(rw [hy321];with_reducible exact H)|(have H2_:=(Option.bind_some _ _).symm.trans H;rw [hy321];with_reducible exact H2_)|(have H2_:=(Option.bind_some _ _).symm.trans H;with_reducible exact H2_)|with_reducible exact H|(rw [hy321];exact H)|exact H
 have Ny321:=Aside0.mk hy321;clear hy321
 by_cases c3 : y321.length + l0.length < 5864062014805
 ·
  rw [if_pos c3] at H
  have LMc3:=Aside0.mk c3;clear c3
  obtain ⟨y324,hy324⟩ : ∃ y_ : List (S29),y_ = (y321 ++ l0):=⟨_,rfl⟩
  replace H : ((impl_contraryOf.f a1_0 a1_1 a1_2).bind fun bt327 => (if y324.length < 5864062014805 then ((impl_countsFor.f (y324 ++ [(⟨bt327.1,bt327.2.1,bt327.2.2⟩ : S29)])).bind fun bt333 => (some (!bt333.2))) else (none))) = some r:=by first|(rw [hy324];with_reducible exact H)|(have H2_:=(Option.bind_some _ _).symm.trans H;rw [hy324];with_reducible exact H2_)|(have H2_:=(Option.bind_some _ _).symm.trans H;with_reducible exact H2_)|with_reducible exact H|(rw [hy324];exact H)|exact H
  have Ny324:=Aside0.mk hy324;clear hy324
  replace H:=Option.bind_eq_some_iff.mp H
  obtain ⟨⟨t327,t328,t329⟩,A40,H⟩:=H
  replace H : (if y324.length < 5864062014805 then ((impl_countsFor.f (y324 ++ [(⟨t327,t328,t329⟩ : S29)])).bind fun bt333 => (some (!bt333.2))) else (none)) = some r:=H
  have A4:=Aside0.mk A40;clear A40
  by_cases c5 : y324.length < 5864062014805
  ·
   rw [if_pos c5] at H
   have LMc5:=Aside0.mk c5;clear c5
   obtain ⟨y330,hy330⟩ : ∃ y_ : List (S29),y_ = (y324 ++ [(⟨t327,t328,t329⟩ : S29)]):=⟨_,rfl⟩
   replace H : ((impl_countsFor.f y330).bind fun bt333 => (some (!bt333.2))) = some r:=by first|(rw [hy330];with_reducible exact H)|(have H2_:=(Option.bind_some _ _).symm.trans H;rw [hy330];with_reducible exact H2_)|(have H2_:=(Option.bind_some _ _).symm.trans H;with_reducible exact H2_)|with_reducible exact H|(rw [hy330];exact H)|exact H
   have Ny330:=Aside0.mk hy330;clear hy330
   replace H:=Option.bind_eq_some_iff.mp H
   obtain ⟨⟨t333,t334⟩,A60,H⟩:=H
   replace H : (some (!t334)) = some r:=H
   have A6:=Aside0.mk A60;clear A60
   obtain rfl:=Option.some.inj H
   go_enter Try.func38,Try.ntmps38
   try go_wp2_with (first|((with_reducible refine gate_dst (N:=3) rfl ?_);refine box_event ?hg (N:=3) ?hd (cs:=#[.int .i64 a1_0,.int .i64 a1_1,.int .i64 a1_2]) (t:=29) ?hr ?_;(case hd => rfl);(case hg => rfl);(case hr => first|(go_simp;done)|(go_simp;rfl));intro gb320 hg w7 hbox hb;have n0_:=Aside0.mk (below_step (belU HB.out) hb);have n1_:=Aside0.mk (hbox);have n2_:=Aside0.mk ((by rw [hg];exact (below_size (belU HB.out)) : w.heap.size ≤ gb320));have n3_:=Aside0.mk ((by rw [hg];exact (below_size (belU HB.out)) : w.heap.size ≤ gb320));clear HB;have HB:=n0_;have BK320:=n1_;have GW320:=n2_;have GE320:=n3_;clear n0_ n1_ n2_ n3_ hb hbox hg))
   have n0_:=Aside0.mk (blk_drew BK320.out);have n1_:=Aside0.mk (below_drew1 HB.out);clear BK320 HB;have BK320:=n0_;have HB:=n1_;clear n0_ n1_
   refine start_ (n:=13) (S:=fun w' => w'.cell? ⟨gb320,0,none⟩ = some (.int .i64 a1_0) ∧ w'.cell? ⟨gb320,1,none⟩ = some (.int .i64 a1_1) ∧ w'.cell? ⟨gb320,2,none⟩ = some (.int .i64 a1_2)) (ds:=[]) #[false,false,false,false,false,false,false,false,false,false,false,false,false] (by kernel_rfl) rfl rfl ⟨(blk_cell BK320.out 0).trans rfl,(blk_cell BK320.out 1).trans rfl,(blk_cell BK320.out 2).trans rfl⟩ (fun hHeld => ?_);refine with_tabW impl_weighFollows.tab1 impl_weighFollows.bits1 (fun HT_ HW_ => ?_)
   generalize w7.drew = w8 at BK320 HB hHeld ⊢
   refine pure_ (i:=1) (N:=some 9) (v:=?_) (a':=?_) #[false,true,false,false,false,false,false,false,false,false,false,false,false] rfl rfl (any_of HT_.out (by kernel_rfl)) (fun _ _ _ h => h) (Or.inl ⟨by rfl,?_⟩) ?_ ?_;rotate_left
   ·
    intro w'
    go_simp
    with_reducible rfl
   rotate_left
   ·
    simp only [Act.put,List.setIfInBounds_toArray,List.set_cons_zero,List.set_cons_succ,i64_w,i32_w]
    rfl
   refine take_ (i:=3) (N:=some 11) (v:=?_) (a':=?_) #[false,true,false,true,false,false,false,false,false,false,false,false,false] rfl rfl (take_ofW HT_.out HW_.out (by kernel_rfl)) (fun _ _ _ h => h) (Or.inl ⟨by rfl,?_⟩) hHeld ?_ ?_;rotate_left
   ·
    rintro w' ⟨s0,s1,s2⟩
    go_simp
    with_reducible rfl
   rotate_left
   ·
    simp only [Act.put,List.setIfInBounds_toArray,List.set_cons_zero,List.set_cons_succ,i64_w,i32_w]
    rfl
   refine one_ (i:=0) (N:=some 8) #[true,true,false,true,false,false,false,false,false,false,false,false,false] rfl rfl (one_of HT_.out (by kernel_rfl)) (by decide) (fun K hK => ?_)
   refine Kd.R_lit_step k29 _ 29 ?hg (N:=8) ?hd (xs:=([] : List (S29))) (inner:=[]) (ok:=fun _ => True) (okp:=fun _ => True) ?hr ?hp (fun _ hk => hk) trivial (Below.refl _ _) (Nat.le_refl _) (by simp) ?_;(case hd => rfl);(case hg => rfl);(case hr => first|(go_simp;done)|(go_simp;rfl));(case hp => exact (Reps.none _ _));intro v322 w9 ho10 hb hg_ hnew_;clear hg_ hnew_
   (first|rw [← Ny321.out] at ho10|(simp only [Int.reduceToNat] at ho10;rw [← Ny321.out] at ho10));have n0_:=Aside0.mk (Kd.R_lower (Kd.R_newB ho10 (g:=gb320) (o:=.cells #[.int .i64 a1_0,.int .i64 a1_1,.int .i64 a1_2] 29 (0,0)) (blkU BK320.out)) (below_size (by repeat (first|(with_reducible first|exact HB.out|apply below_alloc|apply pw_below_drewN|apply below_drew1|refine below_set ?_ GE320.out)|exact HB.out))));have n1_:=Aside0.mk (blk_below (g:=gb320) (o:=.cells #[.int .i64 a1_0,.int .i64 a1_1,.int .i64 a1_2] 29 (0,0)) (blkU BK320.out) hb);have n2_:=Aside0.mk (below_step (by repeat (first|(with_reducible first|exact HB.out|apply below_alloc|apply pw_below_drewN|apply below_drew1|refine below_set ?_ GE320.out)|exact HB.out)) hb);clear BK320 HB;have HO323:=n0_;have BK320:=n1_;have HB:=n2_;clear n0_ n1_ n2_ hb ho10
   refine hK.out _ _ ⟨(blk_cell BK320.out 0).trans rfl,(blk_cell BK320.out 1).trans rfl,(blk_cell BK320.out 2).trans rfl⟩ (fun hHeld => ?_);clear hK K
   refine norm_ (a':=?_) ?_ ?_;rotate_left
   ·
    show Act.put _ (some 8) _ = _
    simp only [Act.put,List.setIfInBounds_toArray,List.set_cons_zero,List.set_cons_succ,i64_w,i32_w]
    rfl
   refine one_ (i:=2) (N:=some 10) #[true,true,true,true,false,false,false,false,false,false,false,false,false] rfl rfl (one_of HT_.out (by kernel_rfl)) (by decide) (fun K hK => ?_)
   refine Kd.R_append_rows_step k29 (w0:=w) w.heap.size (by rfl) (.tmp 8) (.tmp 9) 27 29 (.agg #[(.int .i64 0),(.int .i64 0),(.int .i64 0)]) 24 rfl Try.underlying27 info29 rfl (by decide) (by omega) v322 y321 l0 _ _ _ (fun k_ => k_ ≠ gb320) (fun _ => False) rfl rfl ?aO ?aR (fun _ _ h => h) (fun _ h => h.elim) ?aF ?aB ?aS ?aL ?_
   (case aR => exact cU (Kd.C_below HR0.out HB.out))
   (case aB => exact (by repeat (first|(with_reducible first|exact HB.out|apply below_alloc|apply pw_below_drewN|apply below_drew1|refine below_set ?_ GE320.out)|exact HB.out)))
   (case aF => exact (fun k_ hk => Kd.freshB (g:=gb320) (o:=.cells #[.int .i64 a1_0,.int .i64 a1_1,.int .i64 a1_2] 29 (0,0)) (blkU BK320.out) k_ hk))
   (case aO => exact (by (with_reducible repeat (first|apply Kd.R_alloc|apply Kd.R_drewN|apply Kd.R_drew));exact Kd.R_mono HO323.out (fun _ hk => hk.2)))
   (case aS => exact (below_size (by repeat (first|(with_reducible first|exact HB.out|apply below_alloc|apply pw_below_drewN|apply below_drew1|refine below_set ?_ GE320.out)|exact HB.out))))
   (case aL => have:=LMc3.out;omega);intro v325 w11 ho hb hg hat
   rw [← Ny324.out] at ho;have n0_:=Aside0.mk (blk_grown (g:=gb320) (o:=.cells #[.int .i64 a1_0,.int .i64 a1_1,.int .i64 a1_2] 29 (0,0)) (blkU BK320.out) hg (Kd.R_away HO323.out (fun _ hk => hk.2)));have n1_:=Aside0.mk (hb);have n2_:=Aside0.mk (ho);clear BK320 HB HO323;have BK320:=n0_;have HB:=n1_;have HO326:=n2_;clear n0_ n1_ n2_ ho hb hg hat
   refine hK.out _ _ ⟨(blk_cell BK320.out 0).trans rfl,(blk_cell BK320.out 1).trans rfl,(blk_cell BK320.out 2).trans rfl⟩ (fun hHeld => ?_);clear hK K
   refine norm_ (a':=?_) ?_ ?_;rotate_left
   ·
    show Act.put _ (some 10) _ = _
    simp only [Act.put,List.setIfInBounds_toArray,List.set_cons_zero,List.set_cons_succ,i64_w,i32_w]
    rfl
   refine one_ (i:=4) (N:=some 12) #[true,true,true,true,true,false,false,false,false,false,false,false,false] rfl rfl (one_of HT_.out (by kernel_rfl)) (by decide) (fun K hK => ?_)
   refine goes_ Try.func58 (by kernel_rfl) rfl #[.agg #[.int .i64 a1_0,.int .i64 a1_1,.int .i64 a1_2]] (by rfl) rfl rfl (by (try simp only [List.map_toArray,List.map_cons,List.map_nil]);first|done|rfl|(simp only [List.length_drop,List.length_take];rfl)) ?_
   with_reducible refine (impl_contraryOf.calls a1_0 a1_1 a1_2 t327 t328 t329 _ A4.out).mono ?_
   rintro e w12 ⟨rfl,hb⟩
   refine ⟨_,rfl,?_⟩;have n0_:=Aside0.mk (Kd.R_below (rU HO326.out) hb);have n1_:=Aside0.mk (blk_below (g:=gb320) (o:=.cells #[.int .i64 a1_0,.int .i64 a1_1,.int .i64 a1_2] 29 (0,0)) (blkU BK320.out) hb);have n2_:=Aside0.mk (below_step (by repeat (first|(with_reducible first|exact HB.out|apply below_alloc|apply pw_below_drewN|apply below_drew1|refine below_set ?_ GE320.out)|exact HB.out)) hb);clear HO326 BK320 HB;have HO326:=n0_;have BK320:=n1_;have HB:=n2_;clear n0_ n1_ n2_
   (try clear hb)
   (try clear hb2)
   (try clear hk)
   (try clear hi)
   refine hK.out _ _ ⟨(blk_cell BK320.out 0).trans rfl,(blk_cell BK320.out 1).trans rfl,(blk_cell BK320.out 2).trans rfl⟩ (fun hHeld => ?_);clear hK K
   refine norm_ (a':=?_) ?_ ?_;rotate_left
   ·
    show Act.put _ (some 12) _ = _
    simp only [Act.put,List.setIfInBounds_toArray,List.set_cons_zero,List.set_cons_succ,i64_w,i32_w]
    rfl
   refine one_ (i:=5) (N:=some 13) #[true,true,true,true,true,true,false,false,false,false,false,false,false] rfl rfl (one_of HT_.out (by kernel_rfl)) (by decide) (fun K hK => ?_)
   refine value_ (w1:=?_) (v:=?_) (by rfl) rfl ?_ ?_
   rotate_left 2
   ·
    go_simp
    constructor
    ·
     rfl
    ·
     rfl
   refine hK.out _ _ ⟨(blk_cell (blk_alloc BK320.out _) 0).trans rfl,(blk_cell (blk_alloc BK320.out _) 1).trans rfl,(blk_cell (blk_alloc BK320.out _) 2).trans rfl⟩ (fun hHeld => ?_);clear hK K
   refine norm_ (a':=?_) ?_ ?_;rotate_left
   ·
    show Act.put _ (some 13) _ = _
    simp only [Act.put,List.setIfInBounds_toArray,List.set_cons_zero,List.set_cons_succ,i64_w,i32_w]
    rfl
   refine one_ (i:=6) (N:=some 14) #[true,true,true,true,true,true,true,false,false,false,false,false,false] rfl rfl (one_of HT_.out (by kernel_rfl)) (by decide) (fun K hK => ?_)
   refine Kd.R_append_step k29 (w0:=w) w.heap.size (by rfl) (.tmp 10) (.tmp 13) 27 29 (.agg #[(.int .i64 0),(.int .i64 0),(.int .i64 0)]) 24 rfl Try.underlying27 info29 rfl (by decide) (by omega) v325 y324 (⟨t327,t328,t329⟩ : S29) [.int .i64 t327,.int .i64 t328,.int .i64 t329] (fun k_ => k_ ≠ gb320) (fun _ => False) rfl rfl ?aP (fun _ hk => hk.elim) ?aF ?aO ?aB ?aS ?aL ?_
   (case aP => exact k29_mkM _ _ _ (⟨t327,t328,t329⟩ : S29))
   (case aB => exact (by repeat (first|(with_reducible first|exact HB.out|apply below_alloc|apply pw_below_drewN|apply below_drew1|refine below_set ?_ GE320.out)|exact HB.out)))
   (case aF => exact (fun k_ hk => Kd.freshB (g:=gb320) (o:=.cells #[.int .i64 a1_0,.int .i64 a1_1,.int .i64 a1_2] 29 (0,0)) (blkU BK320.out) k_ hk))
   (case aO => exact (rU HO326.out))
   (case aS => exact (below_size (by repeat (first|(with_reducible first|exact HB.out|apply below_alloc|apply pw_below_drewN|apply below_drew1|refine below_set ?_ GE320.out)|exact HB.out))))
   (case aL => have:=LMc5.out;omega);intro v331 w13 ho hb hg hat
   rw [← Ny330.out] at ho;have n0_:=Aside0.mk (blk_grown (g:=gb320) (o:=.cells #[.int .i64 a1_0,.int .i64 a1_1,.int .i64 a1_2] 29 (0,0)) (blkU BK320.out) hg (Kd.R_away HO326.out (fun _ hk => hk)));have n1_:=Aside0.mk (hb);have n2_:=Aside0.mk (ho);clear BK320 HB HO326;have BK320:=n0_;have HB:=n1_;have HO332:=n2_;clear n0_ n1_ n2_ ho hb hg hat
   obtain ⟨Ao14,co14,eo14⟩:=Kd.R_slice HO332.out
   (first|subst eo14|(injection eo14 with f1_ f2_ f3_;have f4_:=f1_.symm;have f5_:=f3_.symm;clear f1_ f2_ f3_;subst f4_;subst f5_))
   refine hK.out _ _ ⟨(blk_cell BK320.out 0).trans rfl,(blk_cell BK320.out 1).trans rfl,(blk_cell BK320.out 2).trans rfl⟩ (fun hHeld => ?_);clear hK K
   refine norm_ (a':=?_) ?_ ?_;rotate_left
   ·
    show Act.put _ (some 14) _ = _
    simp only [Act.put,List.setIfInBounds_toArray,List.set_cons_zero,List.set_cons_succ,i64_w,i32_w]
    rfl
   refine one_ (i:=7) (N:=some 15) #[true,true,true,true,true,true,true,true,false,false,false,false,false] rfl rfl (one_of HT_.out (by kernel_rfl)) (by decide) (fun K hK => ?_)
   refine goes_ Try.func43 (by kernel_rfl) rfl #[.slice Ao14 y330.length co14] (by rfl) rfl rfl (by (try simp only [List.map_toArray,List.map_cons,List.map_nil]);first|done|rfl|(simp only [List.length_drop,List.length_take];rfl)) ?_
   with_reducible refine (impl_countsFor.calls _ _ y330 t333 t334 _ ?side1 ?side2 A6.out).mono ?_
   (case side1 => exact cU (Kd.R_reads' HO332.out).2.2)
   (case side2 => exact (Kd.R_reads' HO332.out).2.1)
   rintro e w15 ⟨v335,rfl,ho0,hb⟩
   refine ⟨_,rfl,?_⟩;have n0_:=Aside0.mk (Kd.R_below (rU HO332.out) hb);have n1_:=Aside0.mk (Kd.R_lower ho0 (below_size (by repeat (first|(with_reducible first|exact HB.out|apply below_alloc|apply pw_below_drewN|apply below_drew1|refine below_set ?_ GE320.out)|exact HB.out))));have n2_:=Aside0.mk (blk_below (g:=gb320) (o:=.cells #[.int .i64 a1_0,.int .i64 a1_1,.int .i64 a1_2] 29 (0,0)) (blkU BK320.out) hb);have n3_:=Aside0.mk (below_step (by repeat (first|(with_reducible first|exact HB.out|apply below_alloc|apply pw_below_drewN|apply below_drew1|refine below_set ?_ GE320.out)|exact HB.out)) hb);clear HO332 BK320 HB;have HO332:=n0_;have HO336:=n1_;have BK320:=n2_;have HB:=n3_;clear n0_ n1_ n2_ n3_
   (try clear hb)
   (try clear hb2)
   (try clear hk)
   (try clear hi)
   (try clear ho0)
   refine hK.out _ _ ⟨(blk_cell BK320.out 0).trans rfl,(blk_cell BK320.out 1).trans rfl,(blk_cell BK320.out 2).trans rfl⟩ (fun hHeld => ?_);clear hK K
   refine norm_ (a':=?_) ?_ ?_;rotate_left
   ·
    show Act.put _ (some 15) _ = _
    simp only [Act.put,List.setIfInBounds_toArray,List.set_cons_zero,List.set_cons_succ,i64_w,i32_w]
    rfl
   refine pure_ (i:=8) (N:=some 7) (v:=?_) (a':=?_) #[true,true,true,true,true,true,true,true,true,false,false,false,false] rfl rfl (any_of HT_.out (by kernel_rfl)) (fun _ _ _ h => h) (Or.inl ⟨by rfl,?_⟩) ?_ ?_;rotate_left
   ·
    intro w'
    go_simp
    with_reducible rfl
   rotate_left
   ·
    simp only [Act.put,List.setIfInBounds_toArray,List.set_cons_zero,List.set_cons_succ,i64_w,i32_w]
    rfl
   refine pure_ (i:=9) (N:=some 16) (v:=?_) (a':=?_) #[true,true,true,true,true,true,true,true,true,true,false,false,false] rfl rfl (any_of HT_.out (by kernel_rfl)) (fun _ _ _ h => h) (Or.inl ⟨by rfl,?_⟩) ?_ ?_;rotate_left
   ·
    intro w'
    go_simp
    with_reducible rfl
   rotate_left
   ·
    simp only [Act.put,List.setIfInBounds_toArray,List.set_cons_zero,List.set_cons_succ,i64_w,i32_w]
    rfl
   refine pure_ (i:=10) (N:=some 17) (v:=?_) (a':=?_) #[true,true,true,true,true,true,true,true,true,true,true,false,false] rfl rfl (any_of HT_.out (by kernel_rfl)) (fun _ _ _ h => h) (Or.inl ⟨by rfl,?_⟩) ?_ ?_;rotate_left
   ·
    intro w'
    go_simp
    with_reducible rfl
   rotate_left
   ·
    simp only [Act.put,List.setIfInBounds_toArray,List.set_cons_zero,List.set_cons_succ,i64_w,i32_w]
    rfl
   refine pure_ (i:=11) (N:=some 5) (v:=?_) (a':=?_) #[true,true,true,true,true,true,true,true,true,true,true,true,false] rfl rfl (any_of HT_.out (by kernel_rfl)) (fun _ _ _ h => h) (Or.inl ⟨by rfl,?_⟩) ?_ ?_;rotate_left
   ·
    intro w'
    go_simp
    with_reducible rfl
   rotate_left
   ·
    simp only [Act.put,List.setIfInBounds_toArray,List.set_cons_zero,List.set_cons_succ,i64_w,i32_w]
    rfl
   refine pure_ (i:=12) (N:=some 6) (v:=?_) (a':=?_) #[true,true,true,true,true,true,true,true,true,true,true,true,true] rfl rfl (any_of HT_.out (by kernel_rfl)) (fun _ _ _ h => h) (Or.inl ⟨by rfl,?_⟩) ?_ ?_;rotate_left
   ·
    intro w'
    go_simp
    with_reducible rfl
   rotate_left
   ·
    simp only [Act.put,List.setIfInBounds_toArray,List.set_cons_zero,List.set_cons_succ,i64_w,i32_w]
    rfl
   refine done_ (done_of HT_.out (by kernel_rfl)) ?_
   try go_wp2
   go_ret
   exact ⟨by first|rfl|(simp [errW_none,errW_some] <;> rfl)|(simp [*,errW_none,errW_some] <;> rfl),by repeat (first|(with_reducible first|exact HB.out|apply below_alloc|apply pw_below_drewN|apply below_drew1|refine below_set ?_ GE320.out)|exact HB.out)⟩
  ·
   rw [if_neg c5] at H
   exact absurd H (by simp)
 ·
  rw [if_neg c3] at H
  exact absurd H (by simp)

end Go.Proofs.Ytmbninbecclbiaa.PA
