/- The machine side of functions of this seat, written by the session's program myprint.py: for each Go function a Lean function and the proof that the call answers just it. -/
import Derived.Test.YtmbninbecclbiaaPAx0
import Derived.Test.YtmbninbecclbiaaUp
import Derived.Test.YtmbninbecclbiaaPAx25
import Derived.Test.YtmbninbecclbiaaPAx27
import Derived.Test.YtmbninbecclbiaaPAx30
namespace Go.Proofs.Ytmbninbecclbiaa.PA
open Go.RowKit Go.Proofs.YtmbninbecclbiaaW.PrintWords Go.Proofs.YtmbninbecclbiaaW.PrintLast Go.Proofs.YtmbninbecclbiaaW.PrintMore
attribute [local go_sem] max2_int min2_int max_two min_two max_three min_three max_four min_four   -- for this text's walks alone
set_option linter.unusedVariables false
set_option linter.unusedSimpArgs false

/-! ### spec_DrawWeighSo: function 19 -/
def spec_DrawWeighSo.f (k : Nat) (l0 : List Int) : Option (List Int × Int × Int × Int):=(spec_l20Open.f l0).bind fun bt442 => ((spec_l20Counts.f k bt442.1 bt442.2 14).bind fun bt445 => ((spec_l20Weigh.f k bt442.1 bt445.2 14).bind fun bt449 => (some (bt445.1,bt449.1,bt449.2.1,bt449.2.2.1))))
theorem spec_DrawWeighSo.mono : ∀ a0 k,LeO (spec_DrawWeighSo.f k a0) (spec_DrawWeighSo.f (k + 1) a0):=by
 intro a0 k
 unfold spec_DrawWeighSo.f
 repeat' first
   | (with_reducible exact spec_l20Counts.mono _ _ _ _)
   | (with_reducible exact spec_l20Weigh.mono _ _ _ _)
   | (with_reducible exact LeO.refl _)
   | (with_reducible exact LeO.none _)
   | (with_reducible refine LeO.ite ?_ ?_)
   | (with_reducible refine LeO.bind ?_ (fun _ => ?_))
   | exact spec_l20Counts.mono _ _ _ _
   | exact spec_l20Weigh.mono _ _ _ _
   | exact LeO.none _
   | refine LeO.ite ?_ ?_
   | refine LeO.bind ?_ (fun _ => ?_)
set_option maxHeartbeats 8000000 in
set_option maxRecDepth 100000 in
theorem spec_DrawWeighSo.calls (k : Nat) (A0 : Option Addr) (c0 : Nat) (l0 : List Int) (r1 : List Int) (r2 : Int) (r3 : Int) (r4 : Int) (w : World) (hr0 : Kd.C (Kd.int .u8) w A0 l0.length l0) (hc0 : l0.length ≤ c0) (h : spec_DrawWeighSo.f k l0 = some (r1,r2,r3,r4)) :
  Calls Try.prog 19 #[.slice A0 l0.length c0] w fun e w' => ∃ v0_ : Value,e = .returned (.tuple #[v0_,.agg #[.int .i64 r2,.int .i64 r3,.int .i64 r4]]) ∧ Kd.R (Kd.int .i64) 3 w' w.heap.size (fun _ => True) v0_ r1 ∧ Below w.heap.size w w':=by
 have hu29:=Try.underlying29
 have HR0:=Aside0.mk hr0
 have HC0:=Aside0.mk hc0;clear hr0 hc0;have HB:=Aside0.mk (Below.refl w.heap.size w)
 have H : ((spec_l20Open.f l0).bind fun bt442 => ((spec_l20Counts.f k bt442.1 bt442.2 14).bind fun bt445 => ((spec_l20Weigh.f k bt442.1 bt445.2 14).bind fun bt449 => (some (bt445.1,bt449.1,bt449.2.1,bt449.2.2.1))))) = some (r1,r2,r3,r4):=h;clear h
 replace H:=Option.bind_eq_some_iff.mp H
 obtain ⟨⟨t442,t443⟩,A20,H⟩:=H
 replace H : ((spec_l20Counts.f k t442 t443 14).bind fun bt445 => ((spec_l20Weigh.f k t442 bt445.2 14).bind fun bt449 => (some (bt445.1,bt449.1,bt449.2.1,bt449.2.2.1)))) = some (r1,r2,r3,r4):=H
 have A2:=Aside0.mk A20;clear A20
 replace H:=Option.bind_eq_some_iff.mp H
 obtain ⟨⟨t445,t448⟩,A30,H⟩:=H
 replace H : ((spec_l20Weigh.f k t442 t448 14).bind fun bt449 => (some (t445,bt449.1,bt449.2.1,bt449.2.2.1))) = some (r1,r2,r3,r4):=H
 have A3:=Aside0.mk A30;clear A30
 replace H:=Option.bind_eq_some_iff.mp H
 obtain ⟨⟨t449,t450,t451,t452⟩,A40,H⟩:=H
 replace H : (some (t445,t449,t450,t451)) = some (r1,r2,r3,r4):=H
 have A4:=Aside0.mk A40;clear A40
 simp only [Option.some.injEq,Prod.mk.injEq] at H
 obtain ⟨rfl,rfl,rfl,rfl⟩:=H
 go_enter Try.func19,Try.ntmps19
 go_wp2_with (first|((with_reducible refine gate_dst (N:=3) rfl ?_);refine box_event ?hg (N:=3) ?hd (cs:=#[.int .i64 0,.int .i64 0,.int .i64 0]) (t:=29) ?hr ?_;(case hd => rfl);(case hg => rfl);(case hr => first|(go_simp;done)|(go_simp;rfl));intro gb441 hg w5 hbox hb;have n0_:=Aside0.mk (below_step (belU HB.out) hb);have n1_:=Aside0.mk (hbox);have n2_:=Aside0.mk ((by rw [hg];exact (below_size (belU HB.out)) : w.heap.size ≤ gb441));have n3_:=Aside0.mk ((by rw [hg];exact (below_size (belU HB.out)) : w.heap.size ≤ gb441));clear HB;have HB:=n0_;have BK441:=n1_;have GW441:=n2_;have GE441:=n3_;clear n0_ n1_ n2_ n3_ hb hbox hg)|((with_reducible refine gate_callee (f:=40) rfl ?_);refine goesL_ (some 6) rfl rfl Try.func40 (by kernel_rfl) rfl #[.slice A0 l0.length c0] rfl (by (try simp only [List.map_toArray,List.map_cons,List.map_nil]);first|done|rfl|(simp only [List.length_drop,List.length_take];rfl)) ?_;(with_reducible refine (spec_l20Open.calls _ _ l0 t442 t443 w _ ?side1 ?side2 ?side3 A2.out).mono ?_);(case side1 => repeat (first|(with_reducible first|exact HB.out|apply below_alloc|apply pw_below_drewN|apply below_drew1|refine below_set ?_ GE441.out)|exact HB.out));(case side2 => exact HR0.out);(case side3 => exact HC0.out);rintro e w6 ⟨g444,rfl,hi,hb,hb2⟩;refine ⟨_,rfl,?_⟩;have n0_:=Aside0.mk (blk_below (g:=gb441) (o:=.cells #[.int .i64 0,.int .i64 0,.int .i64 0] 29 (0,0)) (blkU BK441.out) hb2);have n1_:=Aside0.mk (hb);have n2_:=Aside0.mk (hi);have n3_:=Aside0.mk (IsS70.ne_blk hi (blk_below (g:=gb441) (o:=.cells #[.int .i64 0,.int .i64 0,.int .i64 0] 29 (0,0)) (blkU BK441.out) hb2) (by decide));have n4_:=Aside0.mk (Ne.symm (IsS70.ne_blk hi (blk_below (g:=gb441) (o:=.cells #[.int .i64 0,.int .i64 0,.int .i64 0] 29 (0,0)) (blkU BK441.out) hb2) (by decide)));clear BK441 HB;have BK441:=n0_;have HB:=n1_;have HI444:=n2_;have NB444_441:=n3_;have NB441_444:=n4_;clear n0_ n1_ n2_ n3_ n4_;(try clear hb);(try clear hb2);(try clear hk);(try clear hi))|((with_reducible refine gate_callee (f:=47) rfl ?_);refine goesL_ (some 8) rfl rfl Try.func47 (by kernel_rfl) rfl #[.pointer (some ⟨g444,0,none⟩),.int .i64 14] rfl (by (try simp only [List.map_toArray,List.map_cons,List.map_nil]);first|done|rfl|(simp only [List.length_drop,List.length_take];rfl)) ?_;(with_reducible refine (spec_l20Counts.calls k g444 t442 t443 14 t445 t448 w _ ?side1 ?side2 A3.out).mono ?_);(case side1 => repeat (first|(with_reducible first|exact HI444.out|apply IsS70.alloc|apply IsS70.drewN|apply IsS70.drew|apply IsS70.set_1|refine IsS70.far ?_ NB444_441.out _)|exact HI444.out));(case side2 => repeat (first|(with_reducible first|exact HB.out|apply below_alloc|apply pw_below_drewN|apply below_drew1|refine below_set ?_ (IsS70.ge HI444.out)|refine below_set ?_ GE441.out)|exact HB.out));rintro e w7 ⟨v446,rfl,ho0,hi,hb,hk⟩;refine ⟨_,rfl,?_⟩;have n0_:=Aside0.mk (KeepBut.blk hk (g':=gb441) (o:=.cells #[.int .i64 0,.int .i64 0,.int .i64 0] 29 (0,0)) (blkU BK441.out) NB441_444.out (by simp));have n1_:=Aside0.mk (Kd.R_lower ho0 (below_size (by repeat (first|(with_reducible first|exact HB.out|apply below_alloc|apply pw_below_drewN|apply below_drew1|refine below_set ?_ (IsS70.ge HI444.out)|refine below_set ?_ GE441.out)|exact HB.out))));have n2_:=Aside0.mk (hb);have n3_:=Aside0.mk (hi);clear BK441 HB HI444;have BK441:=n0_;have HO447:=n1_;have HB:=n2_;have HI444:=n3_;clear n0_ n1_ n2_ n3_;(try clear hb);(try clear hb2);(try clear hk);(try clear hi);(try clear ho0))|((with_reducible refine gate_callee (f:=48) rfl ?_);refine goesL_ (some 10) rfl rfl Try.func48 (by kernel_rfl) rfl #[.pointer (some ⟨g444,0,none⟩),.int .i64 14] rfl (by (try simp only [List.map_toArray,List.map_cons,List.map_nil]);first|done|rfl|(simp only [List.length_drop,List.length_take];rfl)) ?_;(with_reducible refine (spec_l20Weigh.calls k g444 t442 t448 14 t449 t450 t451 t452 w _ ?side1 ?side2 A4.out).mono ?_);(case side1 => repeat (first|(with_reducible first|exact HI444.out|apply IsS70.alloc|apply IsS70.drewN|apply IsS70.drew|apply IsS70.set_1|refine IsS70.far ?_ NB444_441.out _)|exact HI444.out));(case side2 => repeat (first|(with_reducible first|exact HB.out|apply below_alloc|apply pw_below_drewN|apply below_drew1|refine below_set ?_ (IsS70.ge HI444.out)|refine below_set ?_ GE441.out)|exact HB.out));rintro e w8 ⟨rfl,hi,hb,hk⟩;refine ⟨_,rfl,?_⟩;have n0_:=Aside0.mk (KeepBut.blk hk (g':=gb441) (o:=.cells #[.int .i64 0,.int .i64 0,.int .i64 0] 29 (0,0)) (blkU BK441.out) NB441_444.out (by simp));have n1_:=Aside0.mk (Kd.R_mono (Kd.R_keep (IsS70.apart (show IsS70 w _ g444 t442 t448 from by repeat (first|(with_reducible first|exact HI444.out|apply IsS70.alloc|apply IsS70.drewN|apply IsS70.drew|apply IsS70.set_1|refine IsS70.far ?_ NB444_441.out _)|exact HI444.out)) (rU HO447.out) (by decide)) hk (fun _ h => h.2)) (fun _ h => h.1));have n2_:=Aside0.mk (hb);have n3_:=Aside0.mk (hi);clear BK441 HO447 HB HI444;have BK441:=n0_;have HO447:=n1_;have HB:=n2_;have HI444:=n3_;clear n0_ n1_ n2_ n3_;(try clear hb);(try clear hb2);(try clear hk);(try clear hi);have hnb9:=NB441_444.out;have hnc9:=NB444_441.out;have hcz10_0 : w8.cell? ⟨gb441,0,none⟩ = some (.int .i64 0):=(blk_cell BK441.out 0).trans rfl;have hcz10_1 : w8.cell? ⟨gb441,1,none⟩ = some (.int .i64 0):=(blk_cell BK441.out 1).trans rfl;have hcz10_2 : w8.cell? ⟨gb441,2,none⟩ = some (.int .i64 0):=(blk_cell BK441.out 2).trans rfl;have hfz10_0:=blk_frozen BK441.out 0;have hfz10_1:=blk_frozen BK441.out 1;have hfz10_2:=blk_frozen BK441.out 2))
 refine bodyPost_ret (results_tc rfl _ _ gb441 29 #[.int .i64 t449,.int .i64 t450,.int .i64 t451] (0,0) _ rfl (by (with_reducible repeat (first|refine blk_drewN ?_ _|refine blk_drew ?_|refine blk_alloc ?_ _));refine blk_put (cs:=#[.int .i64 t449,.int .i64 t450,.int .i64 0]) ?_ 2 _ rfl;(with_reducible repeat (first|refine blk_drewN ?_ _|refine blk_drew ?_|refine blk_alloc ?_ _));refine blk_put (cs:=#[.int .i64 t449,.int .i64 0,.int .i64 0]) ?_ 1 _ rfl;(with_reducible repeat (first|refine blk_drewN ?_ _|refine blk_drew ?_|refine blk_alloc ?_ _));refine blk_put (cs:=#[.int .i64 0,.int .i64 0,.int .i64 0]) ?_ 0 _ rfl;(with_reducible repeat (first|refine blk_drewN ?_ _|refine blk_drew ?_|refine blk_alloc ?_ _));exact BK441.out) Try.underlying29 rfl (by kernel_rfl)) rfl ?_
 exact ⟨_,by first|rfl|(simp [errW_none,errW_some] <;> rfl)|(simp [*,errW_none,errW_some] <;> rfl),by (with_reducible repeat (first|apply Kd.R_alloc|apply Kd.R_drewN|apply Kd.R_drew));exact Kd.R_mono (Kd.R_far (p:=⟨gb441,2,none⟩) (Kd.R_far (p:=⟨gb441,1,none⟩) (Kd.R_far (p:=⟨gb441,0,none⟩) (Kd.R_types HO447.out BK441.out (by decide)) (fun _ hk => hk.2) (.int .i64 t449)) (fun _ hk => hk.2) (.int .i64 t450)) (fun _ hk => hk.2) (.int .i64 t451)) (fun _ hk => trivial),by repeat (first|(with_reducible first|exact HB.out|apply below_alloc|apply pw_below_drewN|apply below_drew1|refine below_set ?_ (IsS70.ge HI444.out)|refine below_set ?_ GE441.out)|exact HB.out)⟩

end Go.Proofs.Ytmbninbecclbiaa.PA
