/- The machine side of functions of this seat, written by the session's program myprint.py: for each Go function a Lean function and the proof that the call answers just it. -/
import Derived.Test.YtmbninbecclbiaaPAx0
import Derived.Test.YtmbninbecclbiaaUp
import Derived.Test.YtmbninbecclbiaaPAx1
import Derived.Test.YtmbninbecclbiaaPAx12
import Derived.Test.YtmbninbecclbiaaPAx13
import Derived.Test.YtmbninbecclbiaaPAx22
import Derived.Test.YtmbninbecclbiaaPAx23
namespace Go.Proofs.Ytmbninbecclbiaa.PA
open Go.RowKit Go.Proofs.YtmbninbecclbiaaW.PrintWords Go.Proofs.YtmbninbecclbiaaW.PrintLast Go.Proofs.YtmbninbecclbiaaW.PrintMore
attribute [local go_sem] max2_int min2_int max_two min_two max_three min_three max_four min_four   -- for this text's walks alone
set_option linter.unusedVariables false
set_option linter.unusedSimpArgs false

/-! ### laws_FnExactWeighFollows: function 3 -/
def laws_FnExactWeighFollows.f (k : Nat) (l0 : List (S24)) (a1_0 : Int) (a1_1 : Int) (a1_2 : Int) : Option (Bool):=(laws_szSayS.f l0 1048576).bind fun t347 => (if t347 < 0 then (some true) else ((laws_toSayS.f k l0).bind fun t348 => ((laws_toSay.f a1_0 a1_1 a1_2).bind fun bt351 => ((spec_WeighFollows.f k t348 bt351.1 bt351.2.1 bt351.2.2).bind fun t354 => ((laws_toSayS.f k l0).bind fun t355 => ((laws_toSay.f a1_0 a1_1 a1_2).bind fun bt358 => ((impl_WeighFollows.f t355 bt358.1 bt358.2.1 bt358.2.2).bind fun t361 => (if (t361 != t354) = true then (some false) else ((laws_toSayS.f k l0).bind fun t362 => ((laws_eqSayS.f k t355 t362).bind fun t365 => (if t365 = true then (some true) else (some false))))))))))))
theorem laws_FnExactWeighFollows.mono : ∀ a0 a1 a2 a3 k,LeO (laws_FnExactWeighFollows.f k a0 a1 a2 a3) (laws_FnExactWeighFollows.f (k + 1) a0 a1 a2 a3):=by
 intro a0 a1 a2 a3 k
 unfold laws_FnExactWeighFollows.f
 repeat' first
   | (with_reducible exact laws_eqSayS.mono _ _ _)
   | (with_reducible exact laws_toSayS.mono _ _)
   | (with_reducible exact spec_WeighFollows.mono _ _ _ _ _)
   | (with_reducible exact LeO.refl _)
   | (with_reducible exact LeO.none _)
   | (with_reducible refine LeO.ite ?_ ?_)
   | (with_reducible refine LeO.bind ?_ (fun _ => ?_))
   | exact laws_eqSayS.mono _ _ _
   | exact laws_toSayS.mono _ _
   | exact spec_WeighFollows.mono _ _ _ _ _
   | exact LeO.none _
   | refine LeO.ite ?_ ?_
   | refine LeO.bind ?_ (fun _ => ?_)
set_option maxHeartbeats 8000000 in
set_option maxRecDepth 100000 in
theorem laws_FnExactWeighFollows.calls (k : Nat) (A0 : Option Addr) (c0 : Nat) (l0 : List (S24)) (a1_0 : Int) (a1_1 : Int) (a1_2 : Int) (r : Bool) (w : World) (hr0 : Kd.C k24 w A0 l0.length l0) (hc0 : l0.length ≤ c0) (h : laws_FnExactWeighFollows.f k l0 a1_0 a1_1 a1_2 = some r) :
  Calls Try.prog 3 #[.slice A0 l0.length c0,.agg #[.int .i64 a1_0,.int .i64 a1_1,.int .i64 a1_2]] w fun e w' => e = .returned (.bool r) ∧ Below w.heap.size w w':=by
 have hu24:=Try.underlying24
 have HR0:=Aside0.mk hr0
 have HC0:=Aside0.mk hc0;clear hr0 hc0;have HB:=Aside0.mk (Below.refl w.heap.size w)
 have H : ((laws_szSayS.f l0 1048576).bind fun t347 => (if t347 < 0 then (some true) else ((laws_toSayS.f k l0).bind fun t348 => ((laws_toSay.f a1_0 a1_1 a1_2).bind fun bt351 => ((spec_WeighFollows.f k t348 bt351.1 bt351.2.1 bt351.2.2).bind fun t354 => ((laws_toSayS.f k l0).bind fun t355 => ((laws_toSay.f a1_0 a1_1 a1_2).bind fun bt358 => ((impl_WeighFollows.f t355 bt358.1 bt358.2.1 bt358.2.2).bind fun t361 => (if (t361 != t354) = true then (some false) else ((laws_toSayS.f k l0).bind fun t362 => ((laws_eqSayS.f k t355 t362).bind fun t365 => (if t365 = true then (some true) else (some false))))))))))))) = some r:=h;clear h
 replace H:=Option.bind_eq_some_iff.mp H
 obtain ⟨t347,A30,H⟩:=H
 replace H : (if t347 < 0 then (some true) else ((laws_toSayS.f k l0).bind fun t348 => ((laws_toSay.f a1_0 a1_1 a1_2).bind fun bt351 => ((spec_WeighFollows.f k t348 bt351.1 bt351.2.1 bt351.2.2).bind fun t354 => ((laws_toSayS.f k l0).bind fun t355 => ((laws_toSay.f a1_0 a1_1 a1_2).bind fun bt358 => ((impl_WeighFollows.f t355 bt358.1 bt358.2.1 bt358.2.2).bind fun t361 => (if (t361 != t354) = true then (some false) else ((laws_toSayS.f k l0).bind fun t362 => ((laws_eqSayS.f k t355 t362).bind fun t365 => (if t365 = true then (some true) else (some false)))))))))))) = some r:=H
 have A3:=Aside0.mk A30;clear A30
 by_cases c4 : t347 < 0
 ·
  rw [if_pos c4] at H
  have c4b0 : decide (t347 < 0) = true:=decide_eq_true c4;clear c4
  obtain rfl:=Option.some.inj H
  go_enter Try.func3,Try.ntmps3
  go_wp2_with (first|((with_reducible refine gate_dst (N:=3) rfl ?_);refine box_event ?hg (N:=3) ?hd (cs:=#[.int .i64 a1_0,.int .i64 a1_1,.int .i64 a1_2]) (t:=24) ?hr ?_;(case hd => rfl);(case hg => rfl);(case hr => first|(go_simp;done)|(go_simp;rfl));intro gb346 hg w5 hbox hb;have n0_:=Aside0.mk (below_step (belU HB.out) hb);have n1_:=Aside0.mk (hbox);have n2_:=Aside0.mk ((by rw [hg];exact (below_size (belU HB.out)) : w.heap.size ≤ gb346));have n3_:=Aside0.mk ((by rw [hg];exact (below_size (belU HB.out)) : w.heap.size ≤ gb346));clear HB;have HB:=n0_;have BK346:=n1_;have GW346:=n2_;have GE346:=n3_;clear n0_ n1_ n2_ n3_ hb hbox hg)|((with_reducible refine gate_callee (f:=8) rfl ?_);refine goesL_ (some 11) rfl rfl Try.func8 (by kernel_rfl) rfl #[.slice A0 l0.length c0,.int .i64 1048576] rfl (by (try simp only [List.map_toArray,List.map_cons,List.map_nil]);first|done|rfl|(simp only [List.length_drop,List.length_take];rfl)) ?_;(with_reducible refine (laws_szSayS.calls _ _ l0 1048576 t347 _ ?side1 ?side2 A3.out).mono ?_);(case side1 => exact cU (Kd.C_below HR0.out HB.out));(case side2 => exact HC0.out);rintro e w' ⟨rfl,⟨nd,rfl⟩⟩;refine ⟨_,rfl,?_⟩))
  go_ret
  exact ⟨by first|rfl|(simp [errW_none,errW_some] <;> rfl)|(simp [*,errW_none,errW_some] <;> rfl),by repeat (first|(with_reducible first|exact HB.out|apply below_alloc|apply pw_below_drewN|apply below_drew1|refine below_set ?_ GE346.out)|exact HB.out)⟩
 ·
  rw [if_neg c4] at H
  have c4b0 : decide (t347 < 0) = false:=decide_eq_false c4;clear c4
  replace H:=Option.bind_eq_some_iff.mp H
  obtain ⟨t348,A60,H⟩:=H
  replace H : ((laws_toSay.f a1_0 a1_1 a1_2).bind fun bt351 => ((spec_WeighFollows.f k t348 bt351.1 bt351.2.1 bt351.2.2).bind fun t354 => ((laws_toSayS.f k l0).bind fun t355 => ((laws_toSay.f a1_0 a1_1 a1_2).bind fun bt358 => ((impl_WeighFollows.f t355 bt358.1 bt358.2.1 bt358.2.2).bind fun t361 => (if (t361 != t354) = true then (some false) else ((laws_toSayS.f k l0).bind fun t362 => ((laws_eqSayS.f k t355 t362).bind fun t365 => (if t365 = true then (some true) else (some false)))))))))) = some r:=H
  have A6:=Aside0.mk A60;clear A60
  replace H:=Option.bind_eq_some_iff.mp H
  obtain ⟨⟨t351,t352,t353⟩,A70,H⟩:=H
  replace H : ((spec_WeighFollows.f k t348 t351 t352 t353).bind fun t354 => ((laws_toSayS.f k l0).bind fun t355 => ((laws_toSay.f a1_0 a1_1 a1_2).bind fun bt358 => ((impl_WeighFollows.f t355 bt358.1 bt358.2.1 bt358.2.2).bind fun t361 => (if (t361 != t354) = true then (some false) else ((laws_toSayS.f k l0).bind fun t362 => ((laws_eqSayS.f k t355 t362).bind fun t365 => (if t365 = true then (some true) else (some false))))))))) = some r:=H
  have A7:=Aside0.mk A70;clear A70
  replace H:=Option.bind_eq_some_iff.mp H
  obtain ⟨t354,A80,H⟩:=H
  replace H : ((laws_toSayS.f k l0).bind fun t355 => ((laws_toSay.f a1_0 a1_1 a1_2).bind fun bt358 => ((impl_WeighFollows.f t355 bt358.1 bt358.2.1 bt358.2.2).bind fun t361 => (if (t361 != t354) = true then (some false) else ((laws_toSayS.f k l0).bind fun t362 => ((laws_eqSayS.f k t355 t362).bind fun t365 => (if t365 = true then (some true) else (some false)))))))) = some r:=H
  have A8:=Aside0.mk A80;clear A80
  replace H:=Option.bind_eq_some_iff.mp H
  obtain ⟨t355,A90,H⟩:=H
  replace H : ((laws_toSay.f a1_0 a1_1 a1_2).bind fun bt358 => ((impl_WeighFollows.f t355 bt358.1 bt358.2.1 bt358.2.2).bind fun t361 => (if (t361 != t354) = true then (some false) else ((laws_toSayS.f k l0).bind fun t362 => ((laws_eqSayS.f k t355 t362).bind fun t365 => (if t365 = true then (some true) else (some false))))))) = some r:=H
  have A9:=Aside0.mk A90;clear A90
  replace H:=Option.bind_eq_some_iff.mp H
  obtain ⟨⟨t358,t359,t360⟩,A100,H⟩:=H
  replace H : ((impl_WeighFollows.f t355 t358 t359 t360).bind fun t361 => (if (t361 != t354) = true then (some false) else ((laws_toSayS.f k l0).bind fun t362 => ((laws_eqSayS.f k t355 t362).bind fun t365 => (if t365 = true then (some true) else (some false)))))) = some r:=H
  have A10:=Aside0.mk A100;clear A100
  replace H:=Option.bind_eq_some_iff.mp H
  obtain ⟨t361,A110,H⟩:=H
  replace H : (if (t361 != t354) = true then (some false) else ((laws_toSayS.f k l0).bind fun t362 => ((laws_eqSayS.f k t355 t362).bind fun t365 => (if t365 = true then (some true) else (some false))))) = some r:=H
  have A11:=Aside0.mk A110;clear A110
  by_cases c12 : (t361 != t354) = true
  ·
   rw [if_pos c12] at H
   have c12b0 : (t361 != t354) = true:=c12
   (try (have c12b1 : decide (t361 = t354) = false:=by simpa using c12))
   (try (have c12b2 : (t361 == t354) = false:=by simpa using c12))
   (try (have c12b3 : ¬ (t361 = t354):=by simpa using c12));clear c12
   obtain rfl:=Option.some.inj H
   go_enter Try.func3,Try.ntmps3
   try go_wp2_with (first|((with_reducible refine gate_dst (N:=3) rfl ?_);refine box_event ?hg (N:=3) ?hd (cs:=#[.int .i64 a1_0,.int .i64 a1_1,.int .i64 a1_2]) (t:=24) ?hr ?_;(case hd => rfl);(case hg => rfl);(case hr => first|(go_simp;done)|(go_simp;rfl));intro gb346 hg w13 hbox hb;have n0_:=Aside0.mk (below_step (belU HB.out) hb);have n1_:=Aside0.mk (hbox);have n2_:=Aside0.mk ((by rw [hg];exact (below_size (belU HB.out)) : w.heap.size ≤ gb346));have n3_:=Aside0.mk ((by rw [hg];exact (below_size (belU HB.out)) : w.heap.size ≤ gb346));clear HB;have HB:=n0_;have BK346:=n1_;have GW346:=n2_;have GE346:=n3_;clear n0_ n1_ n2_ n3_ hb hbox hg)|((with_reducible refine gate_callee (f:=8) rfl ?_);refine goesL_ (some 11) rfl rfl Try.func8 (by kernel_rfl) rfl #[.slice A0 l0.length c0,.int .i64 1048576] rfl (by (try simp only [List.map_toArray,List.map_cons,List.map_nil]);first|done|rfl|(simp only [List.length_drop,List.length_take];rfl)) ?_;(with_reducible refine (laws_szSayS.calls _ _ l0 1048576 t347 _ ?side1 ?side2 A3.out).mono ?_);(case side1 => exact cU (Kd.C_below HR0.out HB.out));(case side2 => exact HC0.out);rintro e w' ⟨rfl,⟨nd,rfl⟩⟩;refine ⟨_,rfl,?_⟩))
   (try (rw [drewN_self w13];generalize hq_ : World.drewN w13 _ = w13;have n0_ : Aside0 (w13.heap[gb346]? = some (.cells #[.int .i64 a1_0,.int .i64 a1_1,.int .i64 a1_2] 24 (0,0))):=⟨by rw [← hq_];exact (blkU BK346.out)⟩;have n1_ : Aside0 (Below w.heap.size w w13):=⟨by rw [← hq_];exact (by repeat (first|(with_reducible first|exact HB.out|apply below_alloc|apply pw_below_drewN|apply below_drew1|refine below_set ?_ GE346.out)|exact HB.out))⟩;clear BK346 HB hq_;have BK346:=n0_;have HB:=n1_;clear n0_ n1_));have n0_:=Aside0.mk (blk_drew BK346.out);have n1_:=Aside0.mk (below_drew1 HB.out);clear BK346 HB;have BK346:=n0_;have HB:=n1_;clear n0_ n1_
   refine start_ (n:=6) (S:=fun w' => w'.cell? ⟨gb346,0,none⟩ = some (.int .i64 a1_0) ∧ w'.cell? ⟨gb346,1,none⟩ = some (.int .i64 a1_1) ∧ w'.cell? ⟨gb346,2,none⟩ = some (.int .i64 a1_2)) (ds:=[]) #[false,false,false,false,false,false] (by kernel_rfl) rfl rfl ⟨(blk_cell BK346.out 0).trans rfl,(blk_cell BK346.out 1).trans rfl,(blk_cell BK346.out 2).trans rfl⟩ (fun hHeld => ?_)
   generalize w13.drew = w14 at BK346 HB hHeld ⊢
   refine pure_ (i:=0) (N:=some 14) (v:=?_) (a':=?_) #[true,false,false,false,false,false] rfl rfl (by kernel_rfl) (fun _ _ _ h => h) (Or.inl ⟨by rfl,?_⟩) ?_ ?_;rotate_left
   ·
    intro w'
    go_simp
    with_reducible rfl
   rotate_left
   ·
    simp only [Act.put,List.setIfInBounds_toArray,List.set_cons_zero,List.set_cons_succ,i64_w,i32_w]
    rfl
   refine take_ (i:=2) (N:=some 16) (v:=?_) (a':=?_) #[true,false,true,false,false,false] rfl rfl (by kernel_rfl) (fun _ _ _ h => h) (Or.inl ⟨by rfl,?_⟩) hHeld ?_ ?_;rotate_left
   ·
    rintro w' ⟨s0,s1,s2⟩
    go_simp
    with_reducible rfl
   rotate_left
   ·
    simp only [Act.put,List.setIfInBounds_toArray,List.set_cons_zero,List.set_cons_succ,i64_w,i32_w]
    rfl
   refine one_ (i:=1) (N:=some 15) #[true,true,true,false,false,false] rfl rfl (by kernel_rfl) (by decide) (fun K hK => ?_)
   refine goes_ Try.func10 (by kernel_rfl) rfl #[.slice A0 l0.length c0] (by rfl) rfl rfl (by (try simp only [List.map_toArray,List.map_cons,List.map_nil]);first|done|rfl|(simp only [List.length_drop,List.length_take];rfl)) ?_
   with_reducible refine (laws_toSayS.calls k _ _ l0 t348 _ ?side1 ?side2 A6.out).mono ?_
   (case side1 => exact cU (Kd.C_below HR0.out HB.out))
   (case side2 => exact HC0.out)
   rintro e w15 ⟨v349,rfl,ho0,hb⟩
   refine ⟨_,rfl,?_⟩;have n0_:=Aside0.mk (Kd.R_lower ho0 (below_size (by repeat (first|(with_reducible first|exact HB.out|apply below_alloc|apply pw_below_drewN|apply below_drew1|refine below_set ?_ GE346.out)|exact HB.out))));have n1_:=Aside0.mk (blk_below (g:=gb346) (o:=.cells #[.int .i64 a1_0,.int .i64 a1_1,.int .i64 a1_2] 24 (0,0)) (blkU BK346.out) hb);have n2_:=Aside0.mk (below_step (by repeat (first|(with_reducible first|exact HB.out|apply below_alloc|apply pw_below_drewN|apply below_drew1|refine below_set ?_ GE346.out)|exact HB.out)) hb);clear BK346 HB;have HO350:=n0_;have BK346:=n1_;have HB:=n2_;clear n0_ n1_ n2_
   (try clear hb)
   (try clear hb2)
   (try clear hk)
   (try clear hi)
   (try clear ho0)
   refine hK.out _ _ ⟨(blk_cell BK346.out 0).trans rfl,(blk_cell BK346.out 1).trans rfl,(blk_cell BK346.out 2).trans rfl⟩ (fun hHeld => ?_);clear hK K
   refine norm_ (a':=?_) ?_ ?_;rotate_left
   ·
    show Act.put _ (some 15) _ = _
    simp only [Act.put,List.setIfInBounds_toArray,List.set_cons_zero,List.set_cons_succ,i64_w,i32_w]
    rfl
   refine one_ (i:=3) (N:=some 17) #[true,true,true,true,false,false] rfl rfl (by kernel_rfl) (by decide) (fun K hK => ?_)
   refine goes_ Try.func11 (by kernel_rfl) rfl #[.agg #[.int .i64 a1_0,.int .i64 a1_1,.int .i64 a1_2]] (by rfl) rfl rfl (by (try simp only [List.map_toArray,List.map_cons,List.map_nil]);first|done|rfl|(simp only [List.length_drop,List.length_take];rfl)) ?_
   with_reducible refine (laws_toSay.calls a1_0 a1_1 a1_2 t351 t352 t353 _ A7.out).mono ?_
   rintro e w16 ⟨rfl,hb⟩
   refine ⟨_,rfl,?_⟩;have n0_:=Aside0.mk (Kd.R_below (rU HO350.out) hb);have n1_:=Aside0.mk (blk_below (g:=gb346) (o:=.cells #[.int .i64 a1_0,.int .i64 a1_1,.int .i64 a1_2] 24 (0,0)) (blkU BK346.out) hb);have n2_:=Aside0.mk (below_step (by repeat (first|(with_reducible first|exact HB.out|apply below_alloc|apply pw_below_drewN|apply below_drew1|refine below_set ?_ GE346.out)|exact HB.out)) hb);clear HO350 BK346 HB;have HO350:=n0_;have BK346:=n1_;have HB:=n2_;clear n0_ n1_ n2_
   (try clear hb)
   (try clear hb2)
   (try clear hk)
   (try clear hi)
   obtain ⟨Ao17,co17,eo17⟩:=Kd.R_slice HO350.out
   (first|subst eo17|(injection eo17 with f1_ f2_ f3_;have f4_:=f1_.symm;have f5_:=f3_.symm;clear f1_ f2_ f3_;subst f4_;subst f5_))
   refine hK.out _ _ ⟨(blk_cell BK346.out 0).trans rfl,(blk_cell BK346.out 1).trans rfl,(blk_cell BK346.out 2).trans rfl⟩ (fun hHeld => ?_);clear hK K
   refine norm_ (a':=?_) ?_ ?_;rotate_left
   ·
    show Act.put _ (some 17) _ = _
    simp only [Act.put,List.setIfInBounds_toArray,List.set_cons_zero,List.set_cons_succ,i64_w,i32_w]
    rfl
   refine one_ (i:=4) (N:=some 18) #[true,true,true,true,true,false] rfl rfl (by kernel_rfl) (by decide) (fun K hK => ?_)
   refine goes_ Try.func9 (by kernel_rfl) rfl #[.slice Ao17 t348.length co17,.agg #[.int .i64 t351,.int .i64 t352,.int .i64 t353]] (by rfl) rfl rfl (by (try simp only [List.map_toArray,List.map_cons,List.map_nil]);first|done|rfl|(simp only [List.length_drop,List.length_take];rfl)) ?_
   with_reducible refine (spec_WeighFollows.calls k _ _ t348 t351 t352 t353 t354 _ ?side1 ?side2 A8.out).mono ?_
   (case side1 => exact cU (Kd.R_reads' HO350.out).2.2)
   (case side2 => exact (Kd.R_reads' HO350.out).2.1)
   rintro e w18 ⟨rfl,hb⟩
   refine ⟨_,rfl,?_⟩;have n0_:=Aside0.mk (Kd.R_below (rU HO350.out) hb);have n1_:=Aside0.mk (blk_below (g:=gb346) (o:=.cells #[.int .i64 a1_0,.int .i64 a1_1,.int .i64 a1_2] 24 (0,0)) (blkU BK346.out) hb);have n2_:=Aside0.mk (below_step (by repeat (first|(with_reducible first|exact HB.out|apply below_alloc|apply pw_below_drewN|apply below_drew1|refine below_set ?_ GE346.out)|exact HB.out)) hb);clear HO350 BK346 HB;have HO350:=n0_;have BK346:=n1_;have HB:=n2_;clear n0_ n1_ n2_
   (try clear hb)
   (try clear hb2)
   (try clear hk)
   (try clear hi)
   refine hK.out _ _ ⟨(blk_cell BK346.out 0).trans rfl,(blk_cell BK346.out 1).trans rfl,(blk_cell BK346.out 2).trans rfl⟩ (fun hHeld => ?_);clear hK K
   refine norm_ (a':=?_) ?_ ?_;rotate_left
   ·
    show Act.put _ (some 18) _ = _
    simp only [Act.put,List.setIfInBounds_toArray,List.set_cons_zero,List.set_cons_succ,i64_w,i32_w]
    rfl
   refine pure_ (i:=5) (N:=some 6) (v:=?_) (a':=?_) #[true,true,true,true,true,true] rfl rfl (by kernel_rfl) (fun _ _ _ h => h) (Or.inl ⟨by rfl,?_⟩) ?_ ?_;rotate_left
   ·
    intro w'
    go_simp
    with_reducible rfl
   rotate_left
   ·
    simp only [Act.put,List.setIfInBounds_toArray,List.set_cons_zero,List.set_cons_succ,i64_w,i32_w]
    rfl
   refine done_ (by kernel_rfl) ?_
   try go_wp2_with (first|((with_reducible refine gate_callee (f:=10) rfl ?_);refine goesL_ (some 20) rfl rfl Try.func10 (by kernel_rfl) rfl #[.slice A0 l0.length c0] rfl (by (try simp only [List.map_toArray,List.map_cons,List.map_nil]);first|done|rfl|(simp only [List.length_drop,List.length_take];rfl)) ?_;(with_reducible refine (laws_toSayS.calls k _ _ l0 t355 _ ?side1 ?side2 A9.out).mono ?_);(case side1 => exact cU (Kd.C_below HR0.out HB.out));(case side2 => exact HC0.out);rintro e w19 ⟨v356,rfl,ho0,hb⟩;refine ⟨_,rfl,?_⟩;have n0_:=Aside0.mk (Kd.R_elder' (rU HO350.out) (Kd.R_base ho0) hb);have n1_:=Aside0.mk (Kd.R_lower (Kd.R_new' ho0 (Kd.R_lt (rU HO350.out))) (below_size (by repeat (first|(with_reducible first|exact HB.out|apply below_alloc|apply pw_below_drewN|apply below_drew1|refine below_set ?_ GE346.out)|exact HB.out))));have n2_:=Aside0.mk (blk_below (g:=gb346) (o:=.cells #[.int .i64 a1_0,.int .i64 a1_1,.int .i64 a1_2] 24 (0,0)) (blkU BK346.out) hb);have n3_:=Aside0.mk (below_step (by repeat (first|(with_reducible first|exact HB.out|apply below_alloc|apply pw_below_drewN|apply below_drew1|refine below_set ?_ GE346.out)|exact HB.out)) hb);clear HO350 BK346 HB;have HO350:=n0_;have HO357:=n1_;have BK346:=n2_;have HB:=n3_;clear n0_ n1_ n2_ n3_;(try clear hb);(try clear hb2);(try clear hk);(try clear hi);(try clear ho0);have hcz20_0 : w19.cell? ⟨gb346,0,none⟩ = some (.int .i64 a1_0):=(blk_cell BK346.out 0).trans rfl;have hcz20_1 : w19.cell? ⟨gb346,1,none⟩ = some (.int .i64 a1_1):=(blk_cell BK346.out 1).trans rfl;have hcz20_2 : w19.cell? ⟨gb346,2,none⟩ = some (.int .i64 a1_2):=(blk_cell BK346.out 2).trans rfl;have hfz20_0:=blk_frozen BK346.out 0;have hfz20_1:=blk_frozen BK346.out 1;have hfz20_2:=blk_frozen BK346.out 2)|((with_reducible refine gate_callee (f:=11) rfl ?_);refine goesL_ (some 23) rfl rfl Try.func11 (by kernel_rfl) rfl #[.agg #[.int .i64 a1_0,.int .i64 a1_1,.int .i64 a1_2]] rfl (by (try simp only [List.map_toArray,List.map_cons,List.map_nil]);first|done|rfl|(simp only [List.length_drop,List.length_take];rfl)) ?_;(with_reducible refine (laws_toSay.calls a1_0 a1_1 a1_2 t358 t359 t360 _ A10.out).mono ?_);rintro e w21 ⟨rfl,hb⟩;refine ⟨_,rfl,?_⟩;have n0_:=Aside0.mk (Kd.R_below (rU HO350.out) hb);have n1_:=Aside0.mk (Kd.R_below (rU HO357.out) hb);have n2_:=Aside0.mk (blk_below (g:=gb346) (o:=.cells #[.int .i64 a1_0,.int .i64 a1_1,.int .i64 a1_2] 24 (0,0)) (blkU BK346.out) hb);have n3_:=Aside0.mk (below_step (by repeat (first|(with_reducible first|exact HB.out|apply below_alloc|apply pw_below_drewN|apply below_drew1|refine below_set ?_ GE346.out)|exact HB.out)) hb);clear HO350 HO357 BK346 HB;have HO350:=n0_;have HO357:=n1_;have BK346:=n2_;have HB:=n3_;clear n0_ n1_ n2_ n3_;(try clear hb);(try clear hb2);(try clear hk);(try clear hi);obtain ⟨Ao22,co22,eo22⟩:=Kd.R_slice HO357.out;subst eo22)|((with_reducible refine gate_callee (f:=12) rfl ?_);refine goesL_ (some 24) rfl rfl Try.func12 (by kernel_rfl) rfl #[.slice Ao22 t355.length co22,.agg #[.int .i64 t358,.int .i64 t359,.int .i64 t360]] rfl (by (try simp only [List.map_toArray,List.map_cons,List.map_nil]);first|done|rfl|(simp only [List.length_drop,List.length_take];rfl)) ?_;(with_reducible refine (impl_WeighFollows.calls _ _ t355 t358 t359 t360 t361 _ ?side1 ?side2 A11.out).mono ?_);(case side1 => exact cU (Kd.R_reads' HO357.out).2.2);(case side2 => exact (Kd.R_reads' HO357.out).2.1);rintro e w23 ⟨rfl,hb⟩;refine ⟨_,rfl,?_⟩;have n0_:=Aside0.mk (Kd.R_below (rU HO350.out) hb);have n1_:=Aside0.mk (Kd.R_below (rU HO357.out) hb);have n2_:=Aside0.mk (blk_below (g:=gb346) (o:=.cells #[.int .i64 a1_0,.int .i64 a1_1,.int .i64 a1_2] 24 (0,0)) (blkU BK346.out) hb);have n3_:=Aside0.mk (below_step (by repeat (first|(with_reducible first|exact HB.out|apply below_alloc|apply pw_below_drewN|apply below_drew1|refine below_set ?_ GE346.out)|exact HB.out)) hb);clear HO350 HO357 BK346 HB;have HO350:=n0_;have HO357:=n1_;have BK346:=n2_;have HB:=n3_;clear n0_ n1_ n2_ n3_;(try clear hb);(try clear hb2);(try clear hk);(try clear hi)))
   go_ret
   exact ⟨by first|rfl|(simp [errW_none,errW_some] <;> rfl)|(simp [*,errW_none,errW_some] <;> rfl),by repeat (first|(with_reducible first|exact HB.out|apply below_alloc|apply pw_below_drewN|apply below_drew1|refine below_set ?_ GE346.out)|exact HB.out)⟩
  ·
   rw [if_neg c12] at H
   have c12b0 : (t361 != t354) = false:=by simpa using c12
   (try (have c12b1 : decide (t361 = t354) = true:=by simpa using c12))
   (try (have c12b2 : (t361 == t354) = true:=by simpa using c12));clear c12
   replace H:=Option.bind_eq_some_iff.mp H
   obtain ⟨t362,A240,H⟩:=H
   replace H : ((laws_eqSayS.f k t355 t362).bind fun t365 => (if t365 = true then (some true) else (some false))) = some r:=H
   have A24:=Aside0.mk A240;clear A240
   replace H:=Option.bind_eq_some_iff.mp H
   obtain ⟨t365,A250,H⟩:=H
   replace H : (if t365 = true then (some true) else (some false)) = some r:=H
   have A25:=Aside0.mk A250;clear A250
   by_cases c26 : t365 = true
   ·
    subst c26
    have H1 : (some true) = some r:=by rw [if_pos rfl] at H;exact H
    clear H;have H:=H1;clear H1
    obtain rfl:=Option.some.inj H
    go_enter Try.func3,Try.ntmps3
    try go_wp2_with (first|((with_reducible refine gate_dst (N:=3) rfl ?_);refine box_event ?hg (N:=3) ?hd (cs:=#[.int .i64 a1_0,.int .i64 a1_1,.int .i64 a1_2]) (t:=24) ?hr ?_;(case hd => rfl);(case hg => rfl);(case hr => first|(go_simp;done)|(go_simp;rfl));intro gb346 hg w27 hbox hb;have n0_:=Aside0.mk (below_step (belU HB.out) hb);have n1_:=Aside0.mk (hbox);have n2_:=Aside0.mk ((by rw [hg];exact (below_size (belU HB.out)) : w.heap.size ≤ gb346));have n3_:=Aside0.mk ((by rw [hg];exact (below_size (belU HB.out)) : w.heap.size ≤ gb346));clear HB;have HB:=n0_;have BK346:=n1_;have GW346:=n2_;have GE346:=n3_;clear n0_ n1_ n2_ n3_ hb hbox hg)|((with_reducible refine gate_callee (f:=8) rfl ?_);refine goesL_ (some 11) rfl rfl Try.func8 (by kernel_rfl) rfl #[.slice A0 l0.length c0,.int .i64 1048576] rfl (by (try simp only [List.map_toArray,List.map_cons,List.map_nil]);first|done|rfl|(simp only [List.length_drop,List.length_take];rfl)) ?_;(with_reducible refine (laws_szSayS.calls _ _ l0 1048576 t347 _ ?side1 ?side2 A3.out).mono ?_);(case side1 => exact cU (Kd.C_below HR0.out HB.out));(case side2 => exact HC0.out);rintro e w' ⟨rfl,⟨nd,rfl⟩⟩;refine ⟨_,rfl,?_⟩))
    (try (rw [drewN_self w27];generalize hq_ : World.drewN w27 _ = w27;have n0_ : Aside0 (w27.heap[gb346]? = some (.cells #[.int .i64 a1_0,.int .i64 a1_1,.int .i64 a1_2] 24 (0,0))):=⟨by rw [← hq_];exact (blkU BK346.out)⟩;have n1_ : Aside0 (Below w.heap.size w w27):=⟨by rw [← hq_];exact (by repeat (first|(with_reducible first|exact HB.out|apply below_alloc|apply pw_below_drewN|apply below_drew1|refine below_set ?_ GE346.out)|exact HB.out))⟩;clear BK346 HB hq_;have BK346:=n0_;have HB:=n1_;clear n0_ n1_));have n0_:=Aside0.mk (blk_drew BK346.out);have n1_:=Aside0.mk (below_drew1 HB.out);clear BK346 HB;have BK346:=n0_;have HB:=n1_;clear n0_ n1_
    refine start_ (n:=6) (S:=fun w' => w'.cell? ⟨gb346,0,none⟩ = some (.int .i64 a1_0) ∧ w'.cell? ⟨gb346,1,none⟩ = some (.int .i64 a1_1) ∧ w'.cell? ⟨gb346,2,none⟩ = some (.int .i64 a1_2)) (ds:=[]) #[false,false,false,false,false,false] (by kernel_rfl) rfl rfl ⟨(blk_cell BK346.out 0).trans rfl,(blk_cell BK346.out 1).trans rfl,(blk_cell BK346.out 2).trans rfl⟩ (fun hHeld => ?_)
    generalize w27.drew = w28 at BK346 HB hHeld ⊢
    refine pure_ (i:=0) (N:=some 14) (v:=?_) (a':=?_) #[true,false,false,false,false,false] rfl rfl (by kernel_rfl) (fun _ _ _ h => h) (Or.inl ⟨by rfl,?_⟩) ?_ ?_;rotate_left
    ·
     intro w'
     go_simp
     with_reducible rfl
    rotate_left
    ·
     simp only [Act.put,List.setIfInBounds_toArray,List.set_cons_zero,List.set_cons_succ,i64_w,i32_w]
     rfl
    refine take_ (i:=2) (N:=some 16) (v:=?_) (a':=?_) #[true,false,true,false,false,false] rfl rfl (by kernel_rfl) (fun _ _ _ h => h) (Or.inl ⟨by rfl,?_⟩) hHeld ?_ ?_;rotate_left
    ·
     rintro w' ⟨s0,s1,s2⟩
     go_simp
     with_reducible rfl
    rotate_left
    ·
     simp only [Act.put,List.setIfInBounds_toArray,List.set_cons_zero,List.set_cons_succ,i64_w,i32_w]
     rfl
    refine one_ (i:=1) (N:=some 15) #[true,true,true,false,false,false] rfl rfl (by kernel_rfl) (by decide) (fun K hK => ?_)
    refine goes_ Try.func10 (by kernel_rfl) rfl #[.slice A0 l0.length c0] (by rfl) rfl rfl (by (try simp only [List.map_toArray,List.map_cons,List.map_nil]);first|done|rfl|(simp only [List.length_drop,List.length_take];rfl)) ?_
    with_reducible refine (laws_toSayS.calls k _ _ l0 t348 _ ?side1 ?side2 A6.out).mono ?_
    (case side1 => exact cU (Kd.C_below HR0.out HB.out))
    (case side2 => exact HC0.out)
    rintro e w29 ⟨v349,rfl,ho0,hb⟩
    refine ⟨_,rfl,?_⟩;have n0_:=Aside0.mk (Kd.R_lower ho0 (below_size (by repeat (first|(with_reducible first|exact HB.out|apply below_alloc|apply pw_below_drewN|apply below_drew1|refine below_set ?_ GE346.out)|exact HB.out))));have n1_:=Aside0.mk (blk_below (g:=gb346) (o:=.cells #[.int .i64 a1_0,.int .i64 a1_1,.int .i64 a1_2] 24 (0,0)) (blkU BK346.out) hb);have n2_:=Aside0.mk (below_step (by repeat (first|(with_reducible first|exact HB.out|apply below_alloc|apply pw_below_drewN|apply below_drew1|refine below_set ?_ GE346.out)|exact HB.out)) hb);clear BK346 HB;have HO350:=n0_;have BK346:=n1_;have HB:=n2_;clear n0_ n1_ n2_
    (try clear hb)
    (try clear hb2)
    (try clear hk)
    (try clear hi)
    (try clear ho0)
    refine hK.out _ _ ⟨(blk_cell BK346.out 0).trans rfl,(blk_cell BK346.out 1).trans rfl,(blk_cell BK346.out 2).trans rfl⟩ (fun hHeld => ?_);clear hK K
    refine norm_ (a':=?_) ?_ ?_;rotate_left
    ·
     show Act.put _ (some 15) _ = _
     simp only [Act.put,List.setIfInBounds_toArray,List.set_cons_zero,List.set_cons_succ,i64_w,i32_w]
     rfl
    refine one_ (i:=3) (N:=some 17) #[true,true,true,true,false,false] rfl rfl (by kernel_rfl) (by decide) (fun K hK => ?_)
    refine goes_ Try.func11 (by kernel_rfl) rfl #[.agg #[.int .i64 a1_0,.int .i64 a1_1,.int .i64 a1_2]] (by rfl) rfl rfl (by (try simp only [List.map_toArray,List.map_cons,List.map_nil]);first|done|rfl|(simp only [List.length_drop,List.length_take];rfl)) ?_
    with_reducible refine (laws_toSay.calls a1_0 a1_1 a1_2 t351 t352 t353 _ A7.out).mono ?_
    rintro e w30 ⟨rfl,hb⟩
    refine ⟨_,rfl,?_⟩;have n0_:=Aside0.mk (Kd.R_below (rU HO350.out) hb);have n1_:=Aside0.mk (blk_below (g:=gb346) (o:=.cells #[.int .i64 a1_0,.int .i64 a1_1,.int .i64 a1_2] 24 (0,0)) (blkU BK346.out) hb);have n2_:=Aside0.mk (below_step (by repeat (first|(with_reducible first|exact HB.out|apply below_alloc|apply pw_below_drewN|apply below_drew1|refine below_set ?_ GE346.out)|exact HB.out)) hb);clear HO350 BK346 HB;have HO350:=n0_;have BK346:=n1_;have HB:=n2_;clear n0_ n1_ n2_
    (try clear hb)
    (try clear hb2)
    (try clear hk)
    (try clear hi)
    obtain ⟨Ao31,co31,eo31⟩:=Kd.R_slice HO350.out
    (first|subst eo31|(injection eo31 with f1_ f2_ f3_;have f4_:=f1_.symm;have f5_:=f3_.symm;clear f1_ f2_ f3_;subst f4_;subst f5_))
    refine hK.out _ _ ⟨(blk_cell BK346.out 0).trans rfl,(blk_cell BK346.out 1).trans rfl,(blk_cell BK346.out 2).trans rfl⟩ (fun hHeld => ?_);clear hK K
    refine norm_ (a':=?_) ?_ ?_;rotate_left
    ·
     show Act.put _ (some 17) _ = _
     simp only [Act.put,List.setIfInBounds_toArray,List.set_cons_zero,List.set_cons_succ,i64_w,i32_w]
     rfl
    refine one_ (i:=4) (N:=some 18) #[true,true,true,true,true,false] rfl rfl (by kernel_rfl) (by decide) (fun K hK => ?_)
    refine goes_ Try.func9 (by kernel_rfl) rfl #[.slice Ao31 t348.length co31,.agg #[.int .i64 t351,.int .i64 t352,.int .i64 t353]] (by rfl) rfl rfl (by (try simp only [List.map_toArray,List.map_cons,List.map_nil]);first|done|rfl|(simp only [List.length_drop,List.length_take];rfl)) ?_
    with_reducible refine (spec_WeighFollows.calls k _ _ t348 t351 t352 t353 t354 _ ?side1 ?side2 A8.out).mono ?_
    (case side1 => exact cU (Kd.R_reads' HO350.out).2.2)
    (case side2 => exact (Kd.R_reads' HO350.out).2.1)
    rintro e w32 ⟨rfl,hb⟩
    refine ⟨_,rfl,?_⟩;have n0_:=Aside0.mk (Kd.R_below (rU HO350.out) hb);have n1_:=Aside0.mk (blk_below (g:=gb346) (o:=.cells #[.int .i64 a1_0,.int .i64 a1_1,.int .i64 a1_2] 24 (0,0)) (blkU BK346.out) hb);have n2_:=Aside0.mk (below_step (by repeat (first|(with_reducible first|exact HB.out|apply below_alloc|apply pw_below_drewN|apply below_drew1|refine below_set ?_ GE346.out)|exact HB.out)) hb);clear HO350 BK346 HB;have HO350:=n0_;have BK346:=n1_;have HB:=n2_;clear n0_ n1_ n2_
    (try clear hb)
    (try clear hb2)
    (try clear hk)
    (try clear hi)
    refine hK.out _ _ ⟨(blk_cell BK346.out 0).trans rfl,(blk_cell BK346.out 1).trans rfl,(blk_cell BK346.out 2).trans rfl⟩ (fun hHeld => ?_);clear hK K
    refine norm_ (a':=?_) ?_ ?_;rotate_left
    ·
     show Act.put _ (some 18) _ = _
     simp only [Act.put,List.setIfInBounds_toArray,List.set_cons_zero,List.set_cons_succ,i64_w,i32_w]
     rfl
    refine pure_ (i:=5) (N:=some 6) (v:=?_) (a':=?_) #[true,true,true,true,true,true] rfl rfl (by kernel_rfl) (fun _ _ _ h => h) (Or.inl ⟨by rfl,?_⟩) ?_ ?_;rotate_left
    ·
     intro w'
     go_simp
     with_reducible rfl
    rotate_left
    ·
     simp only [Act.put,List.setIfInBounds_toArray,List.set_cons_zero,List.set_cons_succ,i64_w,i32_w]
     rfl
    refine done_ (by kernel_rfl) ?_
    try go_wp2_with (first|((with_reducible refine gate_callee (f:=10) rfl ?_);refine goesL_ (some 20) rfl rfl Try.func10 (by kernel_rfl) rfl #[.slice A0 l0.length c0] rfl (by (try simp only [List.map_toArray,List.map_cons,List.map_nil]);first|done|rfl|(simp only [List.length_drop,List.length_take];rfl)) ?_;(with_reducible refine (laws_toSayS.calls k _ _ l0 t355 _ ?side1 ?side2 A9.out).mono ?_);(case side1 => exact cU (Kd.C_below HR0.out HB.out));(case side2 => exact HC0.out);rintro e w33 ⟨v356,rfl,ho0,hb⟩;refine ⟨_,rfl,?_⟩;have n0_:=Aside0.mk (Kd.R_elder' (rU HO350.out) (Kd.R_base ho0) hb);have n1_:=Aside0.mk (Kd.R_lower (Kd.R_new' ho0 (Kd.R_lt (rU HO350.out))) (below_size (by repeat (first|(with_reducible first|exact HB.out|apply below_alloc|apply pw_below_drewN|apply below_drew1|refine below_set ?_ GE346.out)|exact HB.out))));have n2_:=Aside0.mk (blk_below (g:=gb346) (o:=.cells #[.int .i64 a1_0,.int .i64 a1_1,.int .i64 a1_2] 24 (0,0)) (blkU BK346.out) hb);have n3_:=Aside0.mk (below_step (by repeat (first|(with_reducible first|exact HB.out|apply below_alloc|apply pw_below_drewN|apply below_drew1|refine below_set ?_ GE346.out)|exact HB.out)) hb);clear HO350 BK346 HB;have HO350:=n0_;have HO357:=n1_;have BK346:=n2_;have HB:=n3_;clear n0_ n1_ n2_ n3_;(try clear hb);(try clear hb2);(try clear hk);(try clear hi);(try clear ho0);have hcz34_0 : w33.cell? ⟨gb346,0,none⟩ = some (.int .i64 a1_0):=(blk_cell BK346.out 0).trans rfl;have hcz34_1 : w33.cell? ⟨gb346,1,none⟩ = some (.int .i64 a1_1):=(blk_cell BK346.out 1).trans rfl;have hcz34_2 : w33.cell? ⟨gb346,2,none⟩ = some (.int .i64 a1_2):=(blk_cell BK346.out 2).trans rfl;have hfz34_0:=blk_frozen BK346.out 0;have hfz34_1:=blk_frozen BK346.out 1;have hfz34_2:=blk_frozen BK346.out 2)|((with_reducible refine gate_callee (f:=11) rfl ?_);refine goesL_ (some 23) rfl rfl Try.func11 (by kernel_rfl) rfl #[.agg #[.int .i64 a1_0,.int .i64 a1_1,.int .i64 a1_2]] rfl (by (try simp only [List.map_toArray,List.map_cons,List.map_nil]);first|done|rfl|(simp only [List.length_drop,List.length_take];rfl)) ?_;(with_reducible refine (laws_toSay.calls a1_0 a1_1 a1_2 t358 t359 t360 _ A10.out).mono ?_);rintro e w35 ⟨rfl,hb⟩;refine ⟨_,rfl,?_⟩;have n0_:=Aside0.mk (Kd.R_below (rU HO350.out) hb);have n1_:=Aside0.mk (Kd.R_below (rU HO357.out) hb);have n2_:=Aside0.mk (blk_below (g:=gb346) (o:=.cells #[.int .i64 a1_0,.int .i64 a1_1,.int .i64 a1_2] 24 (0,0)) (blkU BK346.out) hb);have n3_:=Aside0.mk (below_step (by repeat (first|(with_reducible first|exact HB.out|apply below_alloc|apply pw_below_drewN|apply below_drew1|refine below_set ?_ GE346.out)|exact HB.out)) hb);clear HO350 HO357 BK346 HB;have HO350:=n0_;have HO357:=n1_;have BK346:=n2_;have HB:=n3_;clear n0_ n1_ n2_ n3_;(try clear hb);(try clear hb2);(try clear hk);(try clear hi);obtain ⟨Ao36,co36,eo36⟩:=Kd.R_slice HO357.out;subst eo36)|((with_reducible refine gate_callee (f:=12) rfl ?_);refine goesL_ (some 24) rfl rfl Try.func12 (by kernel_rfl) rfl #[.slice Ao36 t355.length co36,.agg #[.int .i64 t358,.int .i64 t359,.int .i64 t360]] rfl (by (try simp only [List.map_toArray,List.map_cons,List.map_nil]);first|done|rfl|(simp only [List.length_drop,List.length_take];rfl)) ?_;(with_reducible refine (impl_WeighFollows.calls _ _ t355 t358 t359 t360 t361 _ ?side1 ?side2 A11.out).mono ?_);(case side1 => exact cU (Kd.R_reads' HO357.out).2.2);(case side2 => exact (Kd.R_reads' HO357.out).2.1);rintro e w37 ⟨rfl,hb⟩;refine ⟨_,rfl,?_⟩;have n0_:=Aside0.mk (Kd.R_below (rU HO350.out) hb);have n1_:=Aside0.mk (Kd.R_below (rU HO357.out) hb);have n2_:=Aside0.mk (blk_below (g:=gb346) (o:=.cells #[.int .i64 a1_0,.int .i64 a1_1,.int .i64 a1_2] 24 (0,0)) (blkU BK346.out) hb);have n3_:=Aside0.mk (below_step (by repeat (first|(with_reducible first|exact HB.out|apply below_alloc|apply pw_below_drewN|apply below_drew1|refine below_set ?_ GE346.out)|exact HB.out)) hb);clear HO350 HO357 BK346 HB;have HO350:=n0_;have HO357:=n1_;have BK346:=n2_;have HB:=n3_;clear n0_ n1_ n2_ n3_;(try clear hb);(try clear hb2);(try clear hk);(try clear hi))|((with_reducible refine gate_callee (f:=10) rfl ?_);refine goesL_ (some 30) rfl rfl Try.func10 (by kernel_rfl) rfl #[.slice A0 l0.length c0] rfl (by (try simp only [List.map_toArray,List.map_cons,List.map_nil]);first|done|rfl|(simp only [List.length_drop,List.length_take];rfl)) ?_;(with_reducible refine (laws_toSayS.calls k _ _ l0 t362 _ ?side1 ?side2 A24.out).mono ?_);(case side1 => exact cU (Kd.C_below HR0.out HB.out));(case side2 => exact HC0.out);rintro e w38 ⟨v363,rfl,ho0,hb⟩;refine ⟨_,rfl,?_⟩;have n0_:=Aside0.mk (Kd.R_elder' (rU HO350.out) (Kd.R_base ho0) hb);have n1_:=Aside0.mk (Kd.R_elder' (rU HO357.out) (Kd.R_base ho0) hb);have n2_:=Aside0.mk (Kd.R_lower (Kd.R_new' (Kd.R_new' ho0 (Kd.R_lt (rU HO350.out))) (Kd.R_lt (rU HO357.out))) (below_size (by repeat (first|(with_reducible first|exact HB.out|apply below_alloc|apply pw_below_drewN|apply below_drew1|refine below_set ?_ GE346.out)|exact HB.out))));have n3_:=Aside0.mk (blk_below (g:=gb346) (o:=.cells #[.int .i64 a1_0,.int .i64 a1_1,.int .i64 a1_2] 24 (0,0)) (blkU BK346.out) hb);have n4_:=Aside0.mk (below_step (by repeat (first|(with_reducible first|exact HB.out|apply below_alloc|apply pw_below_drewN|apply below_drew1|refine below_set ?_ GE346.out)|exact HB.out)) hb);clear HO350 HO357 BK346 HB;have HO350:=n0_;have HO357:=n1_;have HO364:=n2_;have BK346:=n3_;have HB:=n4_;clear n0_ n1_ n2_ n3_ n4_;(try clear hb);(try clear hb2);(try clear hk);(try clear hi);(try clear ho0);obtain ⟨Ao39,co39,eo39⟩:=Kd.R_slice HO364.out;subst eo39)|((with_reducible refine gate_callee (f:=13) rfl ?_);refine goesL_ (some 31) rfl rfl Try.func13 (by kernel_rfl) rfl #[.slice Ao36 t355.length co36,.slice Ao39 t362.length co39] rfl (by (try simp only [List.map_toArray,List.map_cons,List.map_nil]);first|done|rfl|(simp only [List.length_drop,List.length_take];rfl)) ?_;(with_reducible refine (laws_eqSayS.calls k _ _ t355 _ _ t362 true _ ?side1 ?side2 ?side3 ?side4 A25.out).mono ?_);(case side1 => exact cU (Kd.R_reads' HO357.out).2.2);(case side2 => exact (Kd.R_reads' HO357.out).2.1);(case side3 => exact cU (Kd.R_reads' HO364.out).2.2);(case side4 => exact (Kd.R_reads' HO364.out).2.1);rintro e w40 ⟨rfl,hb⟩;refine ⟨_,rfl,?_⟩;have n0_:=Aside0.mk (Kd.R_below (rU HO350.out) hb);have n1_:=Aside0.mk (Kd.R_below (rU HO357.out) hb);have n2_:=Aside0.mk (Kd.R_below (rU HO364.out) hb);have n3_:=Aside0.mk (blk_below (g:=gb346) (o:=.cells #[.int .i64 a1_0,.int .i64 a1_1,.int .i64 a1_2] 24 (0,0)) (blkU BK346.out) hb);have n4_:=Aside0.mk (below_step (by repeat (first|(with_reducible first|exact HB.out|apply below_alloc|apply pw_below_drewN|apply below_drew1|refine below_set ?_ GE346.out)|exact HB.out)) hb);clear HO350 HO357 HO364 BK346 HB;have HO350:=n0_;have HO357:=n1_;have HO364:=n2_;have BK346:=n3_;have HB:=n4_;clear n0_ n1_ n2_ n3_ n4_;(try clear hb);(try clear hb2);(try clear hk);(try clear hi)))
    go_ret
    exact ⟨by first|rfl|(simp [errW_none,errW_some] <;> rfl)|(simp [*,errW_none,errW_some] <;> rfl),by repeat (first|(with_reducible first|exact HB.out|apply below_alloc|apply pw_below_drewN|apply below_drew1|refine below_set ?_ GE346.out)|exact HB.out)⟩
   ·
    replace c26:=Bool.eq_false_iff.mpr c26;subst c26
    have H1 : (some false) = some r:=by rw [if_neg (show ¬ (false = true) by decide)] at H;exact H
    clear H;have H:=H1;clear H1
    obtain rfl:=Option.some.inj H
    go_enter Try.func3,Try.ntmps3
    try go_wp2_with (first|((with_reducible refine gate_dst (N:=3) rfl ?_);refine box_event ?hg (N:=3) ?hd (cs:=#[.int .i64 a1_0,.int .i64 a1_1,.int .i64 a1_2]) (t:=24) ?hr ?_;(case hd => rfl);(case hg => rfl);(case hr => first|(go_simp;done)|(go_simp;rfl));intro gb346 hg w41 hbox hb;have n0_:=Aside0.mk (below_step (belU HB.out) hb);have n1_:=Aside0.mk (hbox);have n2_:=Aside0.mk ((by rw [hg];exact (below_size (belU HB.out)) : w.heap.size ≤ gb346));have n3_:=Aside0.mk ((by rw [hg];exact (below_size (belU HB.out)) : w.heap.size ≤ gb346));clear HB;have HB:=n0_;have BK346:=n1_;have GW346:=n2_;have GE346:=n3_;clear n0_ n1_ n2_ n3_ hb hbox hg)|((with_reducible refine gate_callee (f:=8) rfl ?_);refine goesL_ (some 11) rfl rfl Try.func8 (by kernel_rfl) rfl #[.slice A0 l0.length c0,.int .i64 1048576] rfl (by (try simp only [List.map_toArray,List.map_cons,List.map_nil]);first|done|rfl|(simp only [List.length_drop,List.length_take];rfl)) ?_;(with_reducible refine (laws_szSayS.calls _ _ l0 1048576 t347 _ ?side1 ?side2 A3.out).mono ?_);(case side1 => exact cU (Kd.C_below HR0.out HB.out));(case side2 => exact HC0.out);rintro e w' ⟨rfl,⟨nd,rfl⟩⟩;refine ⟨_,rfl,?_⟩))
    (try (rw [drewN_self w41];generalize hq_ : World.drewN w41 _ = w41;have n0_ : Aside0 (w41.heap[gb346]? = some (.cells #[.int .i64 a1_0,.int .i64 a1_1,.int .i64 a1_2] 24 (0,0))):=⟨by rw [← hq_];exact (blkU BK346.out)⟩;have n1_ : Aside0 (Below w.heap.size w w41):=⟨by rw [← hq_];exact (by repeat (first|(with_reducible first|exact HB.out|apply below_alloc|apply pw_below_drewN|apply below_drew1|refine below_set ?_ GE346.out)|exact HB.out))⟩;clear BK346 HB hq_;have BK346:=n0_;have HB:=n1_;clear n0_ n1_));have n0_:=Aside0.mk (blk_drew BK346.out);have n1_:=Aside0.mk (below_drew1 HB.out);clear BK346 HB;have BK346:=n0_;have HB:=n1_;clear n0_ n1_
    refine start_ (n:=6) (S:=fun w' => w'.cell? ⟨gb346,0,none⟩ = some (.int .i64 a1_0) ∧ w'.cell? ⟨gb346,1,none⟩ = some (.int .i64 a1_1) ∧ w'.cell? ⟨gb346,2,none⟩ = some (.int .i64 a1_2)) (ds:=[]) #[false,false,false,false,false,false] (by kernel_rfl) rfl rfl ⟨(blk_cell BK346.out 0).trans rfl,(blk_cell BK346.out 1).trans rfl,(blk_cell BK346.out 2).trans rfl⟩ (fun hHeld => ?_)
    generalize w41.drew = w42 at BK346 HB hHeld ⊢
    refine pure_ (i:=0) (N:=some 14) (v:=?_) (a':=?_) #[true,false,false,false,false,false] rfl rfl (by kernel_rfl) (fun _ _ _ h => h) (Or.inl ⟨by rfl,?_⟩) ?_ ?_;rotate_left
    ·
     intro w'
     go_simp
     with_reducible rfl
    rotate_left
    ·
     simp only [Act.put,List.setIfInBounds_toArray,List.set_cons_zero,List.set_cons_succ,i64_w,i32_w]
     rfl
    refine take_ (i:=2) (N:=some 16) (v:=?_) (a':=?_) #[true,false,true,false,false,false] rfl rfl (by kernel_rfl) (fun _ _ _ h => h) (Or.inl ⟨by rfl,?_⟩) hHeld ?_ ?_;rotate_left
    ·
     rintro w' ⟨s0,s1,s2⟩
     go_simp
     with_reducible rfl
    rotate_left
    ·
     simp only [Act.put,List.setIfInBounds_toArray,List.set_cons_zero,List.set_cons_succ,i64_w,i32_w]
     rfl
    refine one_ (i:=1) (N:=some 15) #[true,true,true,false,false,false] rfl rfl (by kernel_rfl) (by decide) (fun K hK => ?_)
    refine goes_ Try.func10 (by kernel_rfl) rfl #[.slice A0 l0.length c0] (by rfl) rfl rfl (by (try simp only [List.map_toArray,List.map_cons,List.map_nil]);first|done|rfl|(simp only [List.length_drop,List.length_take];rfl)) ?_
    with_reducible refine (laws_toSayS.calls k _ _ l0 t348 _ ?side1 ?side2 A6.out).mono ?_
    (case side1 => exact cU (Kd.C_below HR0.out HB.out))
    (case side2 => exact HC0.out)
    rintro e w43 ⟨v349,rfl,ho0,hb⟩
    refine ⟨_,rfl,?_⟩;have n0_:=Aside0.mk (Kd.R_lower ho0 (below_size (by repeat (first|(with_reducible first|exact HB.out|apply below_alloc|apply pw_below_drewN|apply below_drew1|refine below_set ?_ GE346.out)|exact HB.out))));have n1_:=Aside0.mk (blk_below (g:=gb346) (o:=.cells #[.int .i64 a1_0,.int .i64 a1_1,.int .i64 a1_2] 24 (0,0)) (blkU BK346.out) hb);have n2_:=Aside0.mk (below_step (by repeat (first|(with_reducible first|exact HB.out|apply below_alloc|apply pw_below_drewN|apply below_drew1|refine below_set ?_ GE346.out)|exact HB.out)) hb);clear BK346 HB;have HO350:=n0_;have BK346:=n1_;have HB:=n2_;clear n0_ n1_ n2_
    (try clear hb)
    (try clear hb2)
    (try clear hk)
    (try clear hi)
    (try clear ho0)
    refine hK.out _ _ ⟨(blk_cell BK346.out 0).trans rfl,(blk_cell BK346.out 1).trans rfl,(blk_cell BK346.out 2).trans rfl⟩ (fun hHeld => ?_);clear hK K
    refine norm_ (a':=?_) ?_ ?_;rotate_left
    ·
     show Act.put _ (some 15) _ = _
     simp only [Act.put,List.setIfInBounds_toArray,List.set_cons_zero,List.set_cons_succ,i64_w,i32_w]
     rfl
    refine one_ (i:=3) (N:=some 17) #[true,true,true,true,false,false] rfl rfl (by kernel_rfl) (by decide) (fun K hK => ?_)
    refine goes_ Try.func11 (by kernel_rfl) rfl #[.agg #[.int .i64 a1_0,.int .i64 a1_1,.int .i64 a1_2]] (by rfl) rfl rfl (by (try simp only [List.map_toArray,List.map_cons,List.map_nil]);first|done|rfl|(simp only [List.length_drop,List.length_take];rfl)) ?_
    with_reducible refine (laws_toSay.calls a1_0 a1_1 a1_2 t351 t352 t353 _ A7.out).mono ?_
    rintro e w44 ⟨rfl,hb⟩
    refine ⟨_,rfl,?_⟩;have n0_:=Aside0.mk (Kd.R_below (rU HO350.out) hb);have n1_:=Aside0.mk (blk_below (g:=gb346) (o:=.cells #[.int .i64 a1_0,.int .i64 a1_1,.int .i64 a1_2] 24 (0,0)) (blkU BK346.out) hb);have n2_:=Aside0.mk (below_step (by repeat (first|(with_reducible first|exact HB.out|apply below_alloc|apply pw_below_drewN|apply below_drew1|refine below_set ?_ GE346.out)|exact HB.out)) hb);clear HO350 BK346 HB;have HO350:=n0_;have BK346:=n1_;have HB:=n2_;clear n0_ n1_ n2_
    (try clear hb)
    (try clear hb2)
    (try clear hk)
    (try clear hi)
    obtain ⟨Ao45,co45,eo45⟩:=Kd.R_slice HO350.out
    (first|subst eo45|(injection eo45 with f1_ f2_ f3_;have f4_:=f1_.symm;have f5_:=f3_.symm;clear f1_ f2_ f3_;subst f4_;subst f5_))
    refine hK.out _ _ ⟨(blk_cell BK346.out 0).trans rfl,(blk_cell BK346.out 1).trans rfl,(blk_cell BK346.out 2).trans rfl⟩ (fun hHeld => ?_);clear hK K
    refine norm_ (a':=?_) ?_ ?_;rotate_left
    ·
     show Act.put _ (some 17) _ = _
     simp only [Act.put,List.setIfInBounds_toArray,List.set_cons_zero,List.set_cons_succ,i64_w,i32_w]
     rfl
    refine one_ (i:=4) (N:=some 18) #[true,true,true,true,true,false] rfl rfl (by kernel_rfl) (by decide) (fun K hK => ?_)
    refine goes_ Try.func9 (by kernel_rfl) rfl #[.slice Ao45 t348.length co45,.agg #[.int .i64 t351,.int .i64 t352,.int .i64 t353]] (by rfl) rfl rfl (by (try simp only [List.map_toArray,List.map_cons,List.map_nil]);first|done|rfl|(simp only [List.length_drop,List.length_take];rfl)) ?_
    with_reducible refine (spec_WeighFollows.calls k _ _ t348 t351 t352 t353 t354 _ ?side1 ?side2 A8.out).mono ?_
    (case side1 => exact cU (Kd.R_reads' HO350.out).2.2)
    (case side2 => exact (Kd.R_reads' HO350.out).2.1)
    rintro e w46 ⟨rfl,hb⟩
    refine ⟨_,rfl,?_⟩;have n0_:=Aside0.mk (Kd.R_below (rU HO350.out) hb);have n1_:=Aside0.mk (blk_below (g:=gb346) (o:=.cells #[.int .i64 a1_0,.int .i64 a1_1,.int .i64 a1_2] 24 (0,0)) (blkU BK346.out) hb);have n2_:=Aside0.mk (below_step (by repeat (first|(with_reducible first|exact HB.out|apply below_alloc|apply pw_below_drewN|apply below_drew1|refine below_set ?_ GE346.out)|exact HB.out)) hb);clear HO350 BK346 HB;have HO350:=n0_;have BK346:=n1_;have HB:=n2_;clear n0_ n1_ n2_
    (try clear hb)
    (try clear hb2)
    (try clear hk)
    (try clear hi)
    refine hK.out _ _ ⟨(blk_cell BK346.out 0).trans rfl,(blk_cell BK346.out 1).trans rfl,(blk_cell BK346.out 2).trans rfl⟩ (fun hHeld => ?_);clear hK K
    refine norm_ (a':=?_) ?_ ?_;rotate_left
    ·
     show Act.put _ (some 18) _ = _
     simp only [Act.put,List.setIfInBounds_toArray,List.set_cons_zero,List.set_cons_succ,i64_w,i32_w]
     rfl
    refine pure_ (i:=5) (N:=some 6) (v:=?_) (a':=?_) #[true,true,true,true,true,true] rfl rfl (by kernel_rfl) (fun _ _ _ h => h) (Or.inl ⟨by rfl,?_⟩) ?_ ?_;rotate_left
    ·
     intro w'
     go_simp
     with_reducible rfl
    rotate_left
    ·
     simp only [Act.put,List.setIfInBounds_toArray,List.set_cons_zero,List.set_cons_succ,i64_w,i32_w]
     rfl
    refine done_ (by kernel_rfl) ?_
    try go_wp2_with (first|((with_reducible refine gate_callee (f:=10) rfl ?_);refine goesL_ (some 20) rfl rfl Try.func10 (by kernel_rfl) rfl #[.slice A0 l0.length c0] rfl (by (try simp only [List.map_toArray,List.map_cons,List.map_nil]);first|done|rfl|(simp only [List.length_drop,List.length_take];rfl)) ?_;(with_reducible refine (laws_toSayS.calls k _ _ l0 t355 _ ?side1 ?side2 A9.out).mono ?_);(case side1 => exact cU (Kd.C_below HR0.out HB.out));(case side2 => exact HC0.out);rintro e w47 ⟨v356,rfl,ho0,hb⟩;refine ⟨_,rfl,?_⟩;have n0_:=Aside0.mk (Kd.R_elder' (rU HO350.out) (Kd.R_base ho0) hb);have n1_:=Aside0.mk (Kd.R_lower (Kd.R_new' ho0 (Kd.R_lt (rU HO350.out))) (below_size (by repeat (first|(with_reducible first|exact HB.out|apply below_alloc|apply pw_below_drewN|apply below_drew1|refine below_set ?_ GE346.out)|exact HB.out))));have n2_:=Aside0.mk (blk_below (g:=gb346) (o:=.cells #[.int .i64 a1_0,.int .i64 a1_1,.int .i64 a1_2] 24 (0,0)) (blkU BK346.out) hb);have n3_:=Aside0.mk (below_step (by repeat (first|(with_reducible first|exact HB.out|apply below_alloc|apply pw_below_drewN|apply below_drew1|refine below_set ?_ GE346.out)|exact HB.out)) hb);clear HO350 BK346 HB;have HO350:=n0_;have HO357:=n1_;have BK346:=n2_;have HB:=n3_;clear n0_ n1_ n2_ n3_;(try clear hb);(try clear hb2);(try clear hk);(try clear hi);(try clear ho0);have hcz48_0 : w47.cell? ⟨gb346,0,none⟩ = some (.int .i64 a1_0):=(blk_cell BK346.out 0).trans rfl;have hcz48_1 : w47.cell? ⟨gb346,1,none⟩ = some (.int .i64 a1_1):=(blk_cell BK346.out 1).trans rfl;have hcz48_2 : w47.cell? ⟨gb346,2,none⟩ = some (.int .i64 a1_2):=(blk_cell BK346.out 2).trans rfl;have hfz48_0:=blk_frozen BK346.out 0;have hfz48_1:=blk_frozen BK346.out 1;have hfz48_2:=blk_frozen BK346.out 2)|((with_reducible refine gate_callee (f:=11) rfl ?_);refine goesL_ (some 23) rfl rfl Try.func11 (by kernel_rfl) rfl #[.agg #[.int .i64 a1_0,.int .i64 a1_1,.int .i64 a1_2]] rfl (by (try simp only [List.map_toArray,List.map_cons,List.map_nil]);first|done|rfl|(simp only [List.length_drop,List.length_take];rfl)) ?_;(with_reducible refine (laws_toSay.calls a1_0 a1_1 a1_2 t358 t359 t360 _ A10.out).mono ?_);rintro e w49 ⟨rfl,hb⟩;refine ⟨_,rfl,?_⟩;have n0_:=Aside0.mk (Kd.R_below (rU HO350.out) hb);have n1_:=Aside0.mk (Kd.R_below (rU HO357.out) hb);have n2_:=Aside0.mk (blk_below (g:=gb346) (o:=.cells #[.int .i64 a1_0,.int .i64 a1_1,.int .i64 a1_2] 24 (0,0)) (blkU BK346.out) hb);have n3_:=Aside0.mk (below_step (by repeat (first|(with_reducible first|exact HB.out|apply below_alloc|apply pw_below_drewN|apply below_drew1|refine below_set ?_ GE346.out)|exact HB.out)) hb);clear HO350 HO357 BK346 HB;have HO350:=n0_;have HO357:=n1_;have BK346:=n2_;have HB:=n3_;clear n0_ n1_ n2_ n3_;(try clear hb);(try clear hb2);(try clear hk);(try clear hi);obtain ⟨Ao50,co50,eo50⟩:=Kd.R_slice HO357.out;subst eo50)|((with_reducible refine gate_callee (f:=12) rfl ?_);refine goesL_ (some 24) rfl rfl Try.func12 (by kernel_rfl) rfl #[.slice Ao50 t355.length co50,.agg #[.int .i64 t358,.int .i64 t359,.int .i64 t360]] rfl (by (try simp only [List.map_toArray,List.map_cons,List.map_nil]);first|done|rfl|(simp only [List.length_drop,List.length_take];rfl)) ?_;(with_reducible refine (impl_WeighFollows.calls _ _ t355 t358 t359 t360 t361 _ ?side1 ?side2 A11.out).mono ?_);(case side1 => exact cU (Kd.R_reads' HO357.out).2.2);(case side2 => exact (Kd.R_reads' HO357.out).2.1);rintro e w51 ⟨rfl,hb⟩;refine ⟨_,rfl,?_⟩;have n0_:=Aside0.mk (Kd.R_below (rU HO350.out) hb);have n1_:=Aside0.mk (Kd.R_below (rU HO357.out) hb);have n2_:=Aside0.mk (blk_below (g:=gb346) (o:=.cells #[.int .i64 a1_0,.int .i64 a1_1,.int .i64 a1_2] 24 (0,0)) (blkU BK346.out) hb);have n3_:=Aside0.mk (below_step (by repeat (first|(with_reducible first|exact HB.out|apply below_alloc|apply pw_below_drewN|apply below_drew1|refine below_set ?_ GE346.out)|exact HB.out)) hb);clear HO350 HO357 BK346 HB;have HO350:=n0_;have HO357:=n1_;have BK346:=n2_;have HB:=n3_;clear n0_ n1_ n2_ n3_;(try clear hb);(try clear hb2);(try clear hk);(try clear hi))|((with_reducible refine gate_callee (f:=10) rfl ?_);refine goesL_ (some 30) rfl rfl Try.func10 (by kernel_rfl) rfl #[.slice A0 l0.length c0] rfl (by (try simp only [List.map_toArray,List.map_cons,List.map_nil]);first|done|rfl|(simp only [List.length_drop,List.length_take];rfl)) ?_;(with_reducible refine (laws_toSayS.calls k _ _ l0 t362 _ ?side1 ?side2 A24.out).mono ?_);(case side1 => exact cU (Kd.C_below HR0.out HB.out));(case side2 => exact HC0.out);rintro e w52 ⟨v363,rfl,ho0,hb⟩;refine ⟨_,rfl,?_⟩;have n0_:=Aside0.mk (Kd.R_elder' (rU HO350.out) (Kd.R_base ho0) hb);have n1_:=Aside0.mk (Kd.R_elder' (rU HO357.out) (Kd.R_base ho0) hb);have n2_:=Aside0.mk (Kd.R_lower (Kd.R_new' (Kd.R_new' ho0 (Kd.R_lt (rU HO350.out))) (Kd.R_lt (rU HO357.out))) (below_size (by repeat (first|(with_reducible first|exact HB.out|apply below_alloc|apply pw_below_drewN|apply below_drew1|refine below_set ?_ GE346.out)|exact HB.out))));have n3_:=Aside0.mk (blk_below (g:=gb346) (o:=.cells #[.int .i64 a1_0,.int .i64 a1_1,.int .i64 a1_2] 24 (0,0)) (blkU BK346.out) hb);have n4_:=Aside0.mk (below_step (by repeat (first|(with_reducible first|exact HB.out|apply below_alloc|apply pw_below_drewN|apply below_drew1|refine below_set ?_ GE346.out)|exact HB.out)) hb);clear HO350 HO357 BK346 HB;have HO350:=n0_;have HO357:=n1_;have HO364:=n2_;have BK346:=n3_;have HB:=n4_;clear n0_ n1_ n2_ n3_ n4_;(try clear hb);(try clear hb2);(try clear hk);(try clear hi);(try clear ho0);obtain ⟨Ao53,co53,eo53⟩:=Kd.R_slice HO364.out;subst eo53)|((with_reducible refine gate_callee (f:=13) rfl ?_);refine goesL_ (some 31) rfl rfl Try.func13 (by kernel_rfl) rfl #[.slice Ao50 t355.length co50,.slice Ao53 t362.length co53] rfl (by (try simp only [List.map_toArray,List.map_cons,List.map_nil]);first|done|rfl|(simp only [List.length_drop,List.length_take];rfl)) ?_;(with_reducible refine (laws_eqSayS.calls k _ _ t355 _ _ t362 false _ ?side1 ?side2 ?side3 ?side4 A25.out).mono ?_);(case side1 => exact cU (Kd.R_reads' HO357.out).2.2);(case side2 => exact (Kd.R_reads' HO357.out).2.1);(case side3 => exact cU (Kd.R_reads' HO364.out).2.2);(case side4 => exact (Kd.R_reads' HO364.out).2.1);rintro e w54 ⟨rfl,hb⟩;refine ⟨_,rfl,?_⟩;have n0_:=Aside0.mk (Kd.R_below (rU HO350.out) hb);have n1_:=Aside0.mk (Kd.R_below (rU HO357.out) hb);have n2_:=Aside0.mk (Kd.R_below (rU HO364.out) hb);have n3_:=Aside0.mk (blk_below (g:=gb346) (o:=.cells #[.int .i64 a1_0,.int .i64 a1_1,.int .i64 a1_2] 24 (0,0)) (blkU BK346.out) hb);have n4_:=Aside0.mk (below_step (by repeat (first|(with_reducible first|exact HB.out|apply below_alloc|apply pw_below_drewN|apply below_drew1|refine below_set ?_ GE346.out)|exact HB.out)) hb);clear HO350 HO357 HO364 BK346 HB;have HO350:=n0_;have HO357:=n1_;have HO364:=n2_;have BK346:=n3_;have HB:=n4_;clear n0_ n1_ n2_ n3_ n4_;(try clear hb);(try clear hb2);(try clear hk);(try clear hi)))
    go_ret
    exact ⟨by first|rfl|(simp [errW_none,errW_some] <;> rfl)|(simp [*,errW_none,errW_some] <;> rfl),by repeat (first|(with_reducible first|exact HB.out|apply below_alloc|apply pw_below_drewN|apply below_drew1|refine below_set ?_ GE346.out)|exact HB.out)⟩

end Go.Proofs.Ytmbninbecclbiaa.PA
