/- The machine side of functions of this seat, written by the session's program myprint.py: for each Go function a Lean function and the proof that the call answers just it. -/
import Derived.Test.YtmeamfkjfpaciaaPAx0
import Derived.Test.YtmeamfkjfpaciaaUp
import Derived.Test.YtmeamfkjfpaciaaPAx12
import Derived.Test.YtmeamfkjfpaciaaPAx15
import Derived.Test.YtmeamfkjfpaciaaPAx17
import Derived.Test.YtmeamfkjfpaciaaPAx18
import Derived.Test.YtmeamfkjfpaciaaPAx20
import Derived.Test.YtmeamfkjfpaciaaPAx22
import Derived.Test.YtmeamfkjfpaciaaPAx23
namespace Go.Proofs.Ytmeamfkjfpaciaa.PA
open Go.RowKit Go.Proofs.YtmeamfkjfpaciaaW.PrintWords Go.Proofs.YtmeamfkjfpaciaaW.PrintLast Go.Proofs.YtmeamfkjfpaciaaW.PrintMore
attribute [local go_sem] max2_int min2_int max_two min_two max_three min_three max_four min_four   -- for this text's walks alone
set_option linter.unusedVariables false
set_option linter.unusedSimpArgs false

/-! ### laws_FnSplitOf: function 3 -/
def laws_FnSplitOf.j0 : Nat → List Int → List Int → List Int → Bool → Bool → Option (Bool)
 | 0,_,_,_,_,_ => none
 | k + 1,x3,x4,x5,x6,x41 => if x41 = true then (some false) else (if x6 = true then ((impl_MoreDo.f k x4).bind fun t372 => (if t372 = true then ((impl_FewerDo.f k x5).bind fun t373 => (if t373 = true then ((impl_BothOf.f k x4 x5).bind fun t374 => ((laws_sameInts.f k t374 x3).bind fun t377 => (some t377))) else (some false))) else (some false))) else (if (x4.length : Int) = 0 then (if (x5.length : Int) = 0 then ((impl_Between.f k x3).bind fun t370 => (if t370 = true then (some false) else ((laws_alive.f).bind fun t371 => (some t371)))) else (some false)) else (some false)))
def laws_FnSplitOf.f (k : Nat) (l0 : List Int) : Option (Bool):=if (l0.length : Int) > 1048576 then (some true) else ((spec_DrawSplitOf.f k l0).bind fun t351 => ((impl_SplitOf.f k t351).bind fun bt354 => ((spec_SplitOf.f k t351).bind fun bt361 => ((laws_sameInts.f k bt354.1 bt361.1).bind fun t368 => (if t368 = true then ((laws_sameInts.f k bt354.2.1 bt361.2.1).bind fun t369 => (if t369 = true then (laws_FnSplitOf.j0 k t351 bt354.1 bt354.2.1 bt354.2.2 (bt354.2.2 != bt361.2.2)) else (laws_FnSplitOf.j0 k t351 bt354.1 bt354.2.1 bt354.2.2 true))) else (laws_FnSplitOf.j0 k t351 bt354.1 bt354.2.1 bt354.2.2 true))))))
theorem laws_FnSplitOf.mono_l : ∀ k,(∀ y0 y1 y2 y3 y4,LeO (laws_FnSplitOf.j0 k y0 y1 y2 y3 y4) (laws_FnSplitOf.j0 (k + 1) y0 y1 y2 y3 y4))
 | 0 => fun _ _ _ _ _ r h => by simp [laws_FnSplitOf.j0] at h
 | k + 1 => by
  have ih0:=laws_FnSplitOf.mono_l k
  ·
   intro y0 y1 y2 y3 y4
   unfold laws_FnSplitOf.j0
   repeat' first
   | (with_reducible exact ih0 _ _ _ _ _)
   | (with_reducible exact impl_Between.mono _ _)
   | (with_reducible exact impl_BothOf.mono _ _ _)
   | (with_reducible exact impl_FewerDo.mono _ _)
   | (with_reducible exact impl_MoreDo.mono _ _)
   | (with_reducible exact impl_SplitOf.mono _ _)
   | (with_reducible exact laws_sameInts.mono _ _ _)
   | (with_reducible exact spec_DrawSplitOf.mono _ _)
   | (with_reducible exact spec_SplitOf.mono _ _)
   | (with_reducible exact LeO.refl _)
   | (with_reducible exact LeO.none _)
   | (with_reducible refine LeO.ite ?_ ?_)
   | (with_reducible refine LeO.bind ?_ (fun _ => ?_))
   | exact ih0 _ _ _ _ _
   | exact impl_Between.mono _ _
   | exact impl_BothOf.mono _ _ _
   | exact impl_FewerDo.mono _ _
   | exact impl_MoreDo.mono _ _
   | exact impl_SplitOf.mono _ _
   | exact laws_sameInts.mono _ _ _
   | exact spec_DrawSplitOf.mono _ _
   | exact spec_SplitOf.mono _ _
   | exact LeO.none _
   | refine LeO.ite ?_ ?_
   | refine LeO.bind ?_ (fun _ => ?_)
theorem laws_FnSplitOf.mono : ∀ a0 k,LeO (laws_FnSplitOf.f k a0) (laws_FnSplitOf.f (k + 1) a0):=by
 intro a0 k
 have ih0:=laws_FnSplitOf.mono_l k
 unfold laws_FnSplitOf.f
 repeat' first
   | (with_reducible exact ih0 _ _ _ _ _)
   | (with_reducible exact impl_Between.mono _ _)
   | (with_reducible exact impl_BothOf.mono _ _ _)
   | (with_reducible exact impl_FewerDo.mono _ _)
   | (with_reducible exact impl_MoreDo.mono _ _)
   | (with_reducible exact impl_SplitOf.mono _ _)
   | (with_reducible exact laws_sameInts.mono _ _ _)
   | (with_reducible exact spec_DrawSplitOf.mono _ _)
   | (with_reducible exact spec_SplitOf.mono _ _)
   | (with_reducible exact LeO.refl _)
   | (with_reducible exact LeO.none _)
   | (with_reducible refine LeO.ite ?_ ?_)
   | (with_reducible refine LeO.bind ?_ (fun _ => ?_))
   | exact ih0 _ _ _ _ _
   | exact impl_Between.mono _ _
   | exact impl_BothOf.mono _ _ _
   | exact impl_FewerDo.mono _ _
   | exact impl_MoreDo.mono _ _
   | exact impl_SplitOf.mono _ _
   | exact laws_sameInts.mono _ _ _
   | exact spec_DrawSplitOf.mono _ _
   | exact spec_SplitOf.mono _ _
   | exact LeO.none _
   | refine LeO.ite ?_ ?_
   | refine LeO.bind ?_ (fun _ => ?_)
set_option maxHeartbeats 8000000 in
set_option maxRecDepth 100000 in
theorem laws_FnSplitOf.calls (k : Nat) (A0 : Option Addr) (c0 : Nat) (l0 : List Int) (r : Bool) (w : World) (hr0 : Kd.C (Kd.int .u8) w A0 l0.length l0) (hc0 : l0.length ≤ c0) (h : laws_FnSplitOf.f k l0 = some r) :
  Calls Try.prog 3 #[.slice A0 l0.length c0] w fun e w' => e = .returned (.bool r) ∧ Below w.heap.size w w':=by
 have HR0:=Aside0.mk hr0
 have HC0:=Aside0.mk hc0;clear hr0 hc0;have HB:=Aside0.mk (Below.refl w.heap.size w)
 have H : (if (l0.length : Int) > 1048576 then (some true) else ((spec_DrawSplitOf.f k l0).bind fun t351 => ((impl_SplitOf.f k t351).bind fun bt354 => ((spec_SplitOf.f k t351).bind fun bt361 => ((laws_sameInts.f k bt354.1 bt361.1).bind fun t368 => (if t368 = true then ((laws_sameInts.f k bt354.2.1 bt361.2.1).bind fun t369 => (if t369 = true then (laws_FnSplitOf.j0 k t351 bt354.1 bt354.2.1 bt354.2.2 (bt354.2.2 != bt361.2.2)) else (laws_FnSplitOf.j0 k t351 bt354.1 bt354.2.1 bt354.2.2 true))) else (laws_FnSplitOf.j0 k t351 bt354.1 bt354.2.1 bt354.2.2 true))))))) = some r:=h;clear h
 by_cases c2 : (l0.length : Int) > 1048576
 ·
  rw [if_pos c2] at H
  have c2b0 : decide (1048576 < (l0.length : Int)) = true:=decide_eq_true c2
  have c2b1 : decide (1048576 < l0.length) = true:=decide_eq_true (by omega);clear c2
  obtain rfl:=Option.some.inj H
  go_enter Try.func3,Try.ntmps3
  go_wp2
  go_ret
  exact ⟨by first|rfl|(simp [errW_none,errW_some] <;> rfl)|(simp [*,errW_none,errW_some] <;> rfl),belU HB.out⟩
 ·
  rw [if_neg c2] at H
  have c2b0 : decide (1048576 < (l0.length : Int)) = false:=decide_eq_false c2
  have c2b1 : decide (1048576 < l0.length) = false:=decide_eq_false (by omega);clear c2
  replace H:=Option.bind_eq_some_iff.mp H
  obtain ⟨t351,A30,H⟩:=H
  replace H : ((impl_SplitOf.f k t351).bind fun bt354 => ((spec_SplitOf.f k t351).bind fun bt361 => ((laws_sameInts.f k bt354.1 bt361.1).bind fun t368 => (if t368 = true then ((laws_sameInts.f k bt354.2.1 bt361.2.1).bind fun t369 => (if t369 = true then (laws_FnSplitOf.j0 k t351 bt354.1 bt354.2.1 bt354.2.2 (bt354.2.2 != bt361.2.2)) else (laws_FnSplitOf.j0 k t351 bt354.1 bt354.2.1 bt354.2.2 true))) else (laws_FnSplitOf.j0 k t351 bt354.1 bt354.2.1 bt354.2.2 true))))) = some r:=H
  have A3:=Aside0.mk A30;clear A30
  replace H:=Option.bind_eq_some_iff.mp H
  obtain ⟨⟨t354,t355,t356⟩,A40,H⟩:=H
  replace H : ((spec_SplitOf.f k t351).bind fun bt361 => ((laws_sameInts.f k t354 bt361.1).bind fun t368 => (if t368 = true then ((laws_sameInts.f k t355 bt361.2.1).bind fun t369 => (if t369 = true then (laws_FnSplitOf.j0 k t351 t354 t355 t356 (t356 != bt361.2.2)) else (laws_FnSplitOf.j0 k t351 t354 t355 t356 true))) else (laws_FnSplitOf.j0 k t351 t354 t355 t356 true)))) = some r:=H
  have A4:=Aside0.mk A40;clear A40
  replace H:=Option.bind_eq_some_iff.mp H
  obtain ⟨⟨t361,t362,t363⟩,A50,H⟩:=H
  replace H : ((laws_sameInts.f k t354 t361).bind fun t368 => (if t368 = true then ((laws_sameInts.f k t355 t362).bind fun t369 => (if t369 = true then (laws_FnSplitOf.j0 k t351 t354 t355 t356 (t356 != t363)) else (laws_FnSplitOf.j0 k t351 t354 t355 t356 true))) else (laws_FnSplitOf.j0 k t351 t354 t355 t356 true))) = some r:=H
  have A5:=Aside0.mk A50;clear A50
  have HC6:=Aside0.mk H;clear H
  go_enter Try.func3,Try.ntmps3
  go_upto_region 6 with (first|((with_reducible refine gate_callee (f:=5) rfl ?_);refine goesL_ (some 14) rfl rfl Try.func5 (by kernel_rfl) rfl #[.slice A0 l0.length c0] rfl (by (try simp only [List.map_toArray,List.map_cons,List.map_nil]);first|done|rfl|(simp only [List.length_drop,List.length_take];rfl)) ?_;(with_reducible refine (spec_DrawSplitOf.calls k _ _ l0 t351 _ ?side1 ?side2 A3.out).mono ?_);(case side1 => repeat (first|exact HR0.out|(with_reducible refine Kd.C_alloc ?_ _)|(with_reducible refine Kd.C_drewN ?_ _)|(with_reducible refine Kd.C_drew ?_)));(case side2 => exact HC0.out);rintro e w7 ⟨v352,rfl,ho0,hb⟩;refine ⟨_,rfl,?_⟩;have n0_:=Aside0.mk (Kd.R_lower ho0 (below_size (belU HB.out)));have n1_:=Aside0.mk (below_step (belU HB.out) hb);clear HB;have HO353:=n0_;have HB:=n1_;clear n0_ n1_;(try clear hb);(try clear hb2);(try clear hk);(try clear hi);(try clear ho0);obtain ⟨Ao8,co8,eo8⟩:=Kd.R_slice HO353.out;subst eo8)|((with_reducible refine gate_callee (f:=6) rfl ?_);refine goesL_ (some 17) rfl rfl Try.func6 (by kernel_rfl) rfl #[.slice Ao8 t351.length co8] rfl (by (try simp only [List.map_toArray,List.map_cons,List.map_nil]);first|done|rfl|(simp only [List.length_drop,List.length_take];rfl)) ?_;(with_reducible refine (impl_SplitOf.calls k _ _ t351 t354 t355 t356 _ ?side1 ?side2 A4.out).mono ?_);(case side1 => exact cU (Kd.R_reads' HO353.out).2.2);(case side2 => exact (Kd.R_reads' HO353.out).2.1);rintro e w9 ⟨v357,v359,rfl,ho0,ho1,hb⟩;refine ⟨_,rfl,?_⟩;have n0_:=Aside0.mk (Kd.R_mono (Kd.R_told (Kd.R_told (Kd.R_old (rU HO353.out) hb) (Kd.R_base ho0)) (Kd.R_base ho1)) (fun _ h_ => h_.1));have n1_:=Aside0.mk (Kd.R_lower (Kd.R_new' ho0 (Kd.R_lt (rU HO353.out))) (below_size (belU HB.out)));have n2_:=Aside0.mk (Kd.R_lower (Kd.R_new' ho1 (Kd.R_lt (rU HO353.out))) (below_size (belU HB.out)));have n3_:=Aside0.mk (below_step (belU HB.out) hb);clear HO353 HB;have HO353:=n0_;have HO358:=n1_;have HO360:=n2_;have HB:=n3_;clear n0_ n1_ n2_ n3_;(try clear hb);(try clear hb2);(try clear hk);(try clear hi);(try clear ho0);(try clear ho1))|((with_reducible refine gate_callee (f:=7) rfl ?_);refine goesL_ (some 23) rfl rfl Try.func7 (by kernel_rfl) rfl #[.slice Ao8 t351.length co8] rfl (by (try simp only [List.map_toArray,List.map_cons,List.map_nil]);first|done|rfl|(simp only [List.length_drop,List.length_take];rfl)) ?_;(with_reducible refine (spec_SplitOf.calls k _ _ t351 t361 t362 t363 _ ?side1 ?side2 A5.out).mono ?_);(case side1 => exact cU (Kd.R_reads' HO353.out).2.2);(case side2 => exact (Kd.R_reads' HO353.out).2.1);rintro e w10 ⟨v364,v366,rfl,ho0,ho1,hb⟩;refine ⟨_,rfl,?_⟩;have n0_:=Aside0.mk (Kd.R_mono (Kd.R_told (Kd.R_told (Kd.R_old (rU HO353.out) hb) (Kd.R_base ho0)) (Kd.R_base ho1)) (fun _ h_ => h_.1));have n1_:=Aside0.mk (Kd.R_mono (Kd.R_told (Kd.R_told (Kd.R_old (rU HO358.out) hb) (Kd.R_base ho0)) (Kd.R_base ho1)) (fun _ h_ => h_.1));have n2_:=Aside0.mk (Kd.R_mono (Kd.R_told (Kd.R_told (Kd.R_old (rU HO360.out) hb) (Kd.R_base ho0)) (Kd.R_base ho1)) (fun _ h_ => h_.1));have n3_:=Aside0.mk (Kd.R_lower (Kd.R_new' (Kd.R_new' (Kd.R_new' ho0 (Kd.R_lt (rU HO353.out))) (Kd.R_lt (rU HO358.out))) (Kd.R_lt (rU HO360.out))) (below_size (belU HB.out)));have n4_:=Aside0.mk (Kd.R_lower (Kd.R_new' (Kd.R_new' (Kd.R_new' ho1 (Kd.R_lt (rU HO353.out))) (Kd.R_lt (rU HO358.out))) (Kd.R_lt (rU HO360.out))) (below_size (belU HB.out)));have n5_:=Aside0.mk (below_step (belU HB.out) hb);clear HO353 HO358 HO360 HB;have HO353:=n0_;have HO358:=n1_;have HO360:=n2_;have HO365:=n3_;have HO367:=n4_;have HB:=n5_;clear n0_ n1_ n2_ n3_ n4_ n5_;(try clear hb);(try clear hb2);(try clear hk);(try clear hi);(try clear ho0);(try clear ho1)))
  (try simp only [Act.put,List.setIfInBounds_toArray,List.set_cons_zero,List.set_cons_succ])
  go_cut [41] (fun v41 wc => ∃ (kq : Nat) (x41_5 : Bool),v41 = .bool x41_5 ∧ Aside0 (laws_FnSplitOf.j0 kq t351 t354 t355 t356 x41_5 = some r) ∧ Aside0 (kq ≤ k) ∧ Aside0 (Kd.R (Kd.int .i64) 3 wc w.heap.size (fun k_ => some k_ ≠ (v357 : Value).ownBlock ∧ some k_ ≠ (v359 : Value).ownBlock) (.slice Ao8 t351.length co8) t351) ∧ Aside0 (Kd.R (Kd.int .i64) 3 wc w.heap.size (fun k_ => some k_ ≠ ((.slice Ao8 t351.length co8) : Value).ownBlock ∧ some k_ ≠ (v359 : Value).ownBlock) v357 t354) ∧ Aside0 (Kd.R (Kd.int .i64) 3 wc w.heap.size (fun k_ => some k_ ≠ ((.slice Ao8 t351.length co8) : Value).ownBlock ∧ some k_ ≠ (v357 : Value).ownBlock) v359 t355) ∧ Aside0 (Below w.heap.size w wc))
  case first =>
   have H:=HC6.out;clear HC6
   replace H:=Option.bind_eq_some_iff.mp H
   obtain ⟨t368,A110,H⟩:=H
   replace H : (if t368 = true then ((laws_sameInts.f k t355 t362).bind fun t369 => (if t369 = true then (laws_FnSplitOf.j0 k t351 t354 t355 t356 (t356 != t363)) else (laws_FnSplitOf.j0 k t351 t354 t355 t356 true))) else (laws_FnSplitOf.j0 k t351 t354 t355 t356 true)) = some r:=H
   have A11:=Aside0.mk A110;clear A110
   by_cases c12 : t368 = true
   ·
    subst c12
    have H1 : ((laws_sameInts.f k t355 t362).bind fun t369 => (if t369 = true then (laws_FnSplitOf.j0 k t351 t354 t355 t356 (t356 != t363)) else (laws_FnSplitOf.j0 k t351 t354 t355 t356 true))) = some r:=by rw [if_pos rfl] at H;exact H
    clear H;have H:=H1;clear H1
    replace H:=Option.bind_eq_some_iff.mp H
    obtain ⟨t369,A130,H⟩:=H
    replace H : (if t369 = true then (laws_FnSplitOf.j0 k t351 t354 t355 t356 (t356 != t363)) else (laws_FnSplitOf.j0 k t351 t354 t355 t356 true)) = some r:=H
    have A13:=Aside0.mk A130;clear A130
    by_cases c14 : t369 = true
    ·
     subst c14
     have H1 : (laws_FnSplitOf.j0 k t351 t354 t355 t356 (t356 != t363)) = some r:=by rw [if_pos rfl] at H;exact H
     clear H;have H:=H1;clear H1
     have H':=Aside0.mk H;clear H
     obtain ⟨Ao15,co15,eo15⟩:=Kd.R_slice HO358.out;subst eo15
     obtain ⟨Ao16,co16,eo16⟩:=Kd.R_slice HO365.out;subst eo16
     go_wp2_with (first|((with_reducible refine gate_callee (f:=8) rfl ?_);refine goesL_ (some 29) rfl rfl Try.func8 (by kernel_rfl) rfl #[.slice Ao15 t354.length co15,.slice Ao16 t361.length co16] rfl (by (try simp only [List.map_toArray,List.map_cons,List.map_nil]);first|done|rfl|(simp only [List.length_drop,List.length_take];rfl)) ?_;(with_reducible refine (laws_sameInts.calls k _ _ t354 _ _ t361 true _ ?side1 ?side2 ?side3 ?side4 A11.out).mono ?_);(case side1 => exact cU (Kd.R_reads' HO358.out).2.2);(case side2 => exact (Kd.R_reads' HO358.out).2.1);(case side3 => exact cU (Kd.R_reads' HO365.out).2.2);(case side4 => exact (Kd.R_reads' HO365.out).2.1);rintro e w' ⟨rfl,⟨nd,rfl⟩⟩;refine ⟨_,rfl,?_⟩;obtain ⟨Ao17,co17,eo17⟩:=Kd.R_slice HO360.out;subst eo17;obtain ⟨Ao18,co18,eo18⟩:=Kd.R_slice HO367.out;subst eo18)|(go_at_call 8;(with_reducible refine (laws_sameInts.calls k _ _ t355 _ _ t362 true _ ?side1 ?side2 ?side3 ?side4 A13.out).mono ?_);(case side1 => exact cU (Kd.R_reads' HO360.out).2.2);(case side2 => exact (Kd.R_reads' HO360.out).2.1);(case side3 => exact cU (Kd.R_reads' HO367.out).2.2);(case side4 => exact (Kd.R_reads' HO367.out).2.1);rintro e w' ⟨rfl,⟨nd,rfl⟩⟩))
     go_meet
     case rel => exact ⟨_,((t356 != t363)),(by first|rfl|(simp;done)|(simp [*];done)),H',⟨by first|omega|exact Nat.le_refl _⟩,⟨by (with_reducible repeat (first|apply Kd.R_alloc|apply Kd.R_drewN|apply Kd.R_drew));exact Kd.R_mono HO353.out (fun _ hk => ⟨hk.1.1.1.2,hk.1.1.2⟩)⟩,⟨by (with_reducible repeat (first|apply Kd.R_alloc|apply Kd.R_drewN|apply Kd.R_drew));exact Kd.R_mono HO358.out (fun _ hk => ⟨hk.1.1.2,hk.1.1.1⟩)⟩,⟨by (with_reducible repeat (first|apply Kd.R_alloc|apply Kd.R_drewN|apply Kd.R_drew));exact Kd.R_mono HO360.out (fun _ hk => ⟨hk.1.1.2,hk.1.1.1⟩)⟩,⟨belU HB.out⟩⟩
    ·
     replace c14:=Bool.eq_false_iff.mpr c14;subst c14
     have H1 : (laws_FnSplitOf.j0 k t351 t354 t355 t356 true) = some r:=by rw [if_neg (show ¬ (false = true) by decide)] at H;exact H
     clear H;have H:=H1;clear H1
     have H':=Aside0.mk H;clear H
     obtain ⟨Ao19,co19,eo19⟩:=Kd.R_slice HO358.out;subst eo19
     obtain ⟨Ao20,co20,eo20⟩:=Kd.R_slice HO365.out;subst eo20
     go_wp2_with (first|((with_reducible refine gate_callee (f:=8) rfl ?_);refine goesL_ (some 29) rfl rfl Try.func8 (by kernel_rfl) rfl #[.slice Ao19 t354.length co19,.slice Ao20 t361.length co20] rfl (by (try simp only [List.map_toArray,List.map_cons,List.map_nil]);first|done|rfl|(simp only [List.length_drop,List.length_take];rfl)) ?_;(with_reducible refine (laws_sameInts.calls k _ _ t354 _ _ t361 true _ ?side1 ?side2 ?side3 ?side4 A11.out).mono ?_);(case side1 => exact cU (Kd.R_reads' HO358.out).2.2);(case side2 => exact (Kd.R_reads' HO358.out).2.1);(case side3 => exact cU (Kd.R_reads' HO365.out).2.2);(case side4 => exact (Kd.R_reads' HO365.out).2.1);rintro e w' ⟨rfl,⟨nd,rfl⟩⟩;refine ⟨_,rfl,?_⟩;obtain ⟨Ao21,co21,eo21⟩:=Kd.R_slice HO360.out;subst eo21;obtain ⟨Ao22,co22,eo22⟩:=Kd.R_slice HO367.out;subst eo22)|(go_at_call 8;(with_reducible refine (laws_sameInts.calls k _ _ t355 _ _ t362 false _ ?side1 ?side2 ?side3 ?side4 A13.out).mono ?_);(case side1 => exact cU (Kd.R_reads' HO360.out).2.2);(case side2 => exact (Kd.R_reads' HO360.out).2.1);(case side3 => exact cU (Kd.R_reads' HO367.out).2.2);(case side4 => exact (Kd.R_reads' HO367.out).2.1);rintro e w' ⟨rfl,⟨nd,rfl⟩⟩))
     go_meet
     case rel => exact ⟨_,(true),(by first|rfl|(simp;done)|(simp [*];done)),H',⟨by first|omega|exact Nat.le_refl _⟩,⟨by (with_reducible repeat (first|apply Kd.R_alloc|apply Kd.R_drewN|apply Kd.R_drew));exact Kd.R_mono HO353.out (fun _ hk => ⟨hk.1.1.1.2,hk.1.1.2⟩)⟩,⟨by (with_reducible repeat (first|apply Kd.R_alloc|apply Kd.R_drewN|apply Kd.R_drew));exact Kd.R_mono HO358.out (fun _ hk => ⟨hk.1.1.2,hk.1.1.1⟩)⟩,⟨by (with_reducible repeat (first|apply Kd.R_alloc|apply Kd.R_drewN|apply Kd.R_drew));exact Kd.R_mono HO360.out (fun _ hk => ⟨hk.1.1.2,hk.1.1.1⟩)⟩,⟨belU HB.out⟩⟩
   ·
    replace c12:=Bool.eq_false_iff.mpr c12;subst c12
    have H1 : (laws_FnSplitOf.j0 k t351 t354 t355 t356 true) = some r:=by rw [if_neg (show ¬ (false = true) by decide)] at H;exact H
    clear H;have H:=H1;clear H1
    have H':=Aside0.mk H;clear H
    obtain ⟨Ao23,co23,eo23⟩:=Kd.R_slice HO358.out;subst eo23
    obtain ⟨Ao24,co24,eo24⟩:=Kd.R_slice HO365.out;subst eo24
    go_wp2_with (first|((with_reducible refine gate_callee (f:=8) rfl ?_);refine goesL_ (some 29) rfl rfl Try.func8 (by kernel_rfl) rfl #[.slice Ao23 t354.length co23,.slice Ao24 t361.length co24] rfl (by (try simp only [List.map_toArray,List.map_cons,List.map_nil]);first|done|rfl|(simp only [List.length_drop,List.length_take];rfl)) ?_;(with_reducible refine (laws_sameInts.calls k _ _ t354 _ _ t361 false _ ?side1 ?side2 ?side3 ?side4 A11.out).mono ?_);(case side1 => exact cU (Kd.R_reads' HO358.out).2.2);(case side2 => exact (Kd.R_reads' HO358.out).2.1);(case side3 => exact cU (Kd.R_reads' HO365.out).2.2);(case side4 => exact (Kd.R_reads' HO365.out).2.1);rintro e w' ⟨rfl,⟨nd,rfl⟩⟩;refine ⟨_,rfl,?_⟩))
    go_meet
    case rel => exact ⟨_,(true),(by first|rfl|(simp;done)|(simp [*];done)),H',⟨by first|omega|exact Nat.le_refl _⟩,⟨by (with_reducible repeat (first|apply Kd.R_alloc|apply Kd.R_drewN|apply Kd.R_drew));exact Kd.R_mono HO353.out (fun _ hk => ⟨hk.1.1.1.2,hk.1.1.2⟩)⟩,⟨by (with_reducible repeat (first|apply Kd.R_alloc|apply Kd.R_drewN|apply Kd.R_drew));exact Kd.R_mono HO358.out (fun _ hk => ⟨hk.1.1.2,hk.1.1.1⟩)⟩,⟨by (with_reducible repeat (first|apply Kd.R_alloc|apply Kd.R_drewN|apply Kd.R_drew));exact Kd.R_mono HO360.out (fun _ hk => ⟨hk.1.1.2,hk.1.1.1⟩)⟩,⟨belU HB.out⟩⟩
  case rest =>
   clear HC6
   try clear c1
   try clear c2
   try clear c2b0
   try clear c2b1
   try clear p2
   try clear c3
   try clear c5
   try clear c6
   try clear c7
   try clear c8
   try clear c12
   try clear c14
   obtain ⟨kq,x41_5,rfl,HA,HJ5,HO_3,HO_4,HO_5,HB⟩:=hcut
   cases kq with
   | zero => exact absurd HA.out (by simp [laws_FnSplitOf.j0])
   | succ kj5 =>
    have H:=HA.out;clear HA
    simp only [laws_FnSplitOf.j0] at H
    by_cases c25 : x41_5 = true
    ·
     subst c25
     have H1 : (some false) = some r:=by rw [if_pos rfl] at H;exact H
     clear H;have H:=H1;clear H1
     obtain rfl:=Option.some.inj H
     go_wp2
     go_ret
     exact ⟨by first|rfl|(simp [errW_none,errW_some] <;> rfl)|(simp [*,errW_none,errW_some] <;> rfl),belU HB.out⟩
    ·
     replace c25:=Bool.eq_false_iff.mpr c25;subst c25
     have H1 : (if t356 = true then ((impl_MoreDo.f kj5 t354).bind fun t372 => (if t372 = true then ((impl_FewerDo.f kj5 t355).bind fun t373 => (if t373 = true then ((impl_BothOf.f kj5 t354 t355).bind fun t374 => ((laws_sameInts.f kj5 t374 t351).bind fun t377 => (some t377))) else (some false))) else (some false))) else (if (t354.length : Int) = 0 then (if (t355.length : Int) = 0 then ((impl_Between.f kj5 t351).bind fun t370 => (if t370 = true then (some false) else ((laws_alive.f).bind fun t371 => (some t371)))) else (some false)) else (some false))) = some r:=by rw [if_neg (show ¬ (false = true) by decide)] at H;exact H
     clear H;have H:=H1;clear H1
     by_cases c26 : t356 = true
     ·
      subst c26
      have H1 : ((impl_MoreDo.f kj5 t354).bind fun t372 => (if t372 = true then ((impl_FewerDo.f kj5 t355).bind fun t373 => (if t373 = true then ((impl_BothOf.f kj5 t354 t355).bind fun t374 => ((laws_sameInts.f kj5 t374 t351).bind fun t377 => (some t377))) else (some false))) else (some false))) = some r:=by rw [if_pos rfl] at H;exact H
      clear H;have H:=H1;clear H1
      replace H:=Option.bind_eq_some_iff.mp H
      obtain ⟨t372,A270,H⟩:=H
      replace H : (if t372 = true then ((impl_FewerDo.f kj5 t355).bind fun t373 => (if t373 = true then ((impl_BothOf.f kj5 t354 t355).bind fun t374 => ((laws_sameInts.f kj5 t374 t351).bind fun t377 => (some t377))) else (some false))) else (some false)) = some r:=H
      have A27:=Aside0.mk A270;clear A270
      by_cases c28 : t372 = true
      ·
       subst c28
       have H1 : ((impl_FewerDo.f kj5 t355).bind fun t373 => (if t373 = true then ((impl_BothOf.f kj5 t354 t355).bind fun t374 => ((laws_sameInts.f kj5 t374 t351).bind fun t377 => (some t377))) else (some false))) = some r:=by rw [if_pos rfl] at H;exact H
       clear H;have H:=H1;clear H1
       replace H:=Option.bind_eq_some_iff.mp H
       obtain ⟨t373,A290,H⟩:=H
       replace H : (if t373 = true then ((impl_BothOf.f kj5 t354 t355).bind fun t374 => ((laws_sameInts.f kj5 t374 t351).bind fun t377 => (some t377))) else (some false)) = some r:=H
       have A29:=Aside0.mk A290;clear A290
       by_cases c30 : t373 = true
       ·
        subst c30
        have H1 : ((impl_BothOf.f kj5 t354 t355).bind fun t374 => ((laws_sameInts.f kj5 t374 t351).bind fun t377 => (some t377))) = some r:=by rw [if_pos rfl] at H;exact H
        clear H;have H:=H1;clear H1
        replace H:=Option.bind_eq_some_iff.mp H
        obtain ⟨t374,A310,H⟩:=H
        replace H : ((laws_sameInts.f kj5 t374 t351).bind fun t377 => (some t377)) = some r:=H
        have A31:=Aside0.mk A310;clear A310
        replace H:=Option.bind_eq_some_iff.mp H
        obtain ⟨t377,A320,H⟩:=H
        replace H : (some t377) = some r:=H
        have A32:=Aside0.mk A320;clear A320
        obtain rfl:=Option.some.inj H
        obtain ⟨Ao33,co33,eo33⟩:=Kd.R_slice HO_4.out;subst eo33
        go_wp2_with (first|((with_reducible refine gate_callee (f:=11) rfl ?_);refine goesL_ (some 61) rfl rfl Try.func11 (by kernel_rfl) rfl #[.slice Ao33 t354.length co33] rfl (by (try simp only [List.map_toArray,List.map_cons,List.map_nil]);first|done|rfl|(simp only [List.length_drop,List.length_take];rfl)) ?_;(with_reducible refine (impl_MoreDo.calls kj5 _ _ t354 true _ ?side1 ?side2 A27.out).mono ?_);(case side1 => exact cU (Kd.R_reads' HO_4.out).2.2);(case side2 => exact (Kd.R_reads' HO_4.out).2.1);rintro e w34 ⟨rfl,hb⟩;refine ⟨_,rfl,?_⟩;have n0_:=Aside0.mk (Kd.R_below (rU HO_3.out) hb);have n1_:=Aside0.mk (Kd.R_below (rU HO_4.out) hb);have n2_:=Aside0.mk (Kd.R_below (rU HO_5.out) hb);have n3_:=Aside0.mk (below_step (belU HB.out) hb);clear HO_3 HO_4 HO_5 HB;have HO_3:=n0_;have HO_4:=n1_;have HO_5:=n2_;have HB:=n3_;clear n0_ n1_ n2_ n3_;(try clear hb);(try clear hb2);(try clear hk);(try clear hi);obtain ⟨Ao35,co35,eo35⟩:=Kd.R_slice HO_5.out;subst eo35)|(go_at_call 12;(with_reducible refine (impl_FewerDo.calls kj5 _ _ t355 true _ ?side1 ?side2 A29.out).mono ?_);(case side1 => exact cU (Kd.R_reads' HO_5.out).2.2);(case side2 => exact (Kd.R_reads' HO_5.out).2.1);rintro e w36 ⟨rfl,hb⟩;have n0_:=Aside0.mk (Kd.R_below (rU HO_3.out) hb);have n1_:=Aside0.mk (Kd.R_below (rU HO_4.out) hb);have n2_:=Aside0.mk (Kd.R_below (rU HO_5.out) hb);have n3_:=Aside0.mk (below_step (belU HB.out) hb);clear HO_3 HO_4 HO_5 HB;have HO_3:=n0_;have HO_4:=n1_;have HO_5:=n2_;have HB:=n3_;clear n0_ n1_ n2_ n3_;(try clear hb);(try clear hb2);(try clear hk);(try clear hi))|(go_at_call 13;(with_reducible refine (impl_BothOf.calls kj5 _ _ t354 _ _ t355 t374 _ ?side1 ?side2 ?side3 ?side4 A31.out).mono ?_);(case side1 => exact cU (Kd.R_reads' HO_4.out).2.2);(case side2 => exact (Kd.R_reads' HO_4.out).2.1);(case side3 => exact cU (Kd.R_reads' HO_5.out).2.2);(case side4 => exact (Kd.R_reads' HO_5.out).2.1);rintro e w37 ⟨v375,rfl,ho0,hb⟩;have n0_:=Aside0.mk (Kd.R_elder' (rU HO_3.out) (Kd.R_base ho0) hb);have n1_:=Aside0.mk (Kd.R_elder' (rU HO_4.out) (Kd.R_base ho0) hb);have n2_:=Aside0.mk (Kd.R_elder' (rU HO_5.out) (Kd.R_base ho0) hb);have n3_:=Aside0.mk (Kd.R_lower (Kd.R_new' (Kd.R_new' (Kd.R_new' ho0 (Kd.R_lt (rU HO_3.out))) (Kd.R_lt (rU HO_4.out))) (Kd.R_lt (rU HO_5.out))) (below_size (belU HB.out)));have n4_:=Aside0.mk (below_step (belU HB.out) hb);clear HO_3 HO_4 HO_5 HB;have HO_3:=n0_;have HO_4:=n1_;have HO_5:=n2_;have HO376:=n3_;have HB:=n4_;clear n0_ n1_ n2_ n3_ n4_;(try clear hb);(try clear hb2);(try clear hk);(try clear hi);(try clear ho0);obtain ⟨Ao38,co38,eo38⟩:=Kd.R_slice HO376.out;subst eo38)|(go_at_call 8;(with_reducible refine (laws_sameInts.calls kj5 _ _ t374 _ _ t351 t377 _ ?side1 ?side2 ?side3 ?side4 A32.out).mono ?_);(case side1 => exact cU (Kd.R_reads' HO376.out).2.2);(case side2 => exact (Kd.R_reads' HO376.out).2.1);(case side3 => exact cU (Kd.R_reads' HO_3.out).2.2);(case side4 => exact (Kd.R_reads' HO_3.out).2.1);rintro e w' ⟨rfl,⟨nd,rfl⟩⟩))
        go_ret
        exact ⟨by first|rfl|(simp [errW_none,errW_some] <;> rfl)|(simp [*,errW_none,errW_some] <;> rfl),belU HB.out⟩
       ·
        replace c30:=Bool.eq_false_iff.mpr c30;subst c30
        have H1 : (some false) = some r:=by rw [if_neg (show ¬ (false = true) by decide)] at H;exact H
        clear H;have H:=H1;clear H1
        obtain rfl:=Option.some.inj H
        obtain ⟨Ao39,co39,eo39⟩:=Kd.R_slice HO_4.out;subst eo39
        go_wp2_with (first|((with_reducible refine gate_callee (f:=11) rfl ?_);refine goesL_ (some 61) rfl rfl Try.func11 (by kernel_rfl) rfl #[.slice Ao39 t354.length co39] rfl (by (try simp only [List.map_toArray,List.map_cons,List.map_nil]);first|done|rfl|(simp only [List.length_drop,List.length_take];rfl)) ?_;(with_reducible refine (impl_MoreDo.calls kj5 _ _ t354 true _ ?side1 ?side2 A27.out).mono ?_);(case side1 => exact cU (Kd.R_reads' HO_4.out).2.2);(case side2 => exact (Kd.R_reads' HO_4.out).2.1);rintro e w40 ⟨rfl,hb⟩;refine ⟨_,rfl,?_⟩;have n0_:=Aside0.mk (Kd.R_below (rU HO_3.out) hb);have n1_:=Aside0.mk (Kd.R_below (rU HO_4.out) hb);have n2_:=Aside0.mk (Kd.R_below (rU HO_5.out) hb);have n3_:=Aside0.mk (below_step (belU HB.out) hb);clear HO_3 HO_4 HO_5 HB;have HO_3:=n0_;have HO_4:=n1_;have HO_5:=n2_;have HB:=n3_;clear n0_ n1_ n2_ n3_;(try clear hb);(try clear hb2);(try clear hk);(try clear hi);obtain ⟨Ao41,co41,eo41⟩:=Kd.R_slice HO_5.out;subst eo41)|(go_at_call 12;(with_reducible refine (impl_FewerDo.calls kj5 _ _ t355 false _ ?side1 ?side2 A29.out).mono ?_);(case side1 => exact cU (Kd.R_reads' HO_5.out).2.2);(case side2 => exact (Kd.R_reads' HO_5.out).2.1);rintro e w42 ⟨rfl,hb⟩;have n0_:=Aside0.mk (Kd.R_below (rU HO_3.out) hb);have n1_:=Aside0.mk (Kd.R_below (rU HO_4.out) hb);have n2_:=Aside0.mk (Kd.R_below (rU HO_5.out) hb);have n3_:=Aside0.mk (below_step (belU HB.out) hb);clear HO_3 HO_4 HO_5 HB;have HO_3:=n0_;have HO_4:=n1_;have HO_5:=n2_;have HB:=n3_;clear n0_ n1_ n2_ n3_;(try clear hb);(try clear hb2);(try clear hk);(try clear hi)))
        go_ret
        exact ⟨by first|rfl|(simp [errW_none,errW_some] <;> rfl)|(simp [*,errW_none,errW_some] <;> rfl),belU HB.out⟩
      ·
       replace c28:=Bool.eq_false_iff.mpr c28;subst c28
       have H1 : (some false) = some r:=by rw [if_neg (show ¬ (false = true) by decide)] at H;exact H
       clear H;have H:=H1;clear H1
       obtain rfl:=Option.some.inj H
       obtain ⟨Ao43,co43,eo43⟩:=Kd.R_slice HO_4.out;subst eo43
       go_wp2_with (first|((with_reducible refine gate_callee (f:=11) rfl ?_);refine goesL_ (some 61) rfl rfl Try.func11 (by kernel_rfl) rfl #[.slice Ao43 t354.length co43] rfl (by (try simp only [List.map_toArray,List.map_cons,List.map_nil]);first|done|rfl|(simp only [List.length_drop,List.length_take];rfl)) ?_;(with_reducible refine (impl_MoreDo.calls kj5 _ _ t354 false _ ?side1 ?side2 A27.out).mono ?_);(case side1 => exact cU (Kd.R_reads' HO_4.out).2.2);(case side2 => exact (Kd.R_reads' HO_4.out).2.1);rintro e w44 ⟨rfl,hb⟩;refine ⟨_,rfl,?_⟩;have n0_:=Aside0.mk (Kd.R_below (rU HO_3.out) hb);have n1_:=Aside0.mk (Kd.R_below (rU HO_4.out) hb);have n2_:=Aside0.mk (Kd.R_below (rU HO_5.out) hb);have n3_:=Aside0.mk (below_step (belU HB.out) hb);clear HO_3 HO_4 HO_5 HB;have HO_3:=n0_;have HO_4:=n1_;have HO_5:=n2_;have HB:=n3_;clear n0_ n1_ n2_ n3_;(try clear hb);(try clear hb2);(try clear hk);(try clear hi)))
       go_ret
       exact ⟨by first|rfl|(simp [errW_none,errW_some] <;> rfl)|(simp [*,errW_none,errW_some] <;> rfl),belU HB.out⟩
     ·
      replace c26:=Bool.eq_false_iff.mpr c26;subst c26
      have H1 : (if (t354.length : Int) = 0 then (if (t355.length : Int) = 0 then ((impl_Between.f kj5 t351).bind fun t370 => (if t370 = true then (some false) else ((laws_alive.f).bind fun t371 => (some t371)))) else (some false)) else (some false)) = some r:=by rw [if_neg (show ¬ (false = true) by decide)] at H;exact H
      clear H;have H:=H1;clear H1
      by_cases c45 : (t354.length : Int) = 0
      ·
       rw [if_pos c45] at H
       have c45b0 : ((t354.length : Int) == 0) = true:=beq_iff_eq.mpr c45
       have c45b1 : ((t354.length : Int) != 0) = false:=bne_eq_false_iff_eq.mpr c45;clear c45
       by_cases c46 : (t355.length : Int) = 0
       ·
        rw [if_pos c46] at H
        have c46b0 : ((t355.length : Int) == 0) = true:=beq_iff_eq.mpr c46
        have c46b1 : ((t355.length : Int) != 0) = false:=bne_eq_false_iff_eq.mpr c46;clear c46
        replace H:=Option.bind_eq_some_iff.mp H
        obtain ⟨t370,A470,H⟩:=H
        replace H : (if t370 = true then (some false) else ((laws_alive.f).bind fun t371 => (some t371))) = some r:=H
        have A47:=Aside0.mk A470;clear A470
        by_cases c48 : t370 = true
        ·
         subst c48
         have H1 : (some false) = some r:=by rw [if_pos rfl] at H;exact H
         clear H;have H:=H1;clear H1
         obtain rfl:=Option.some.inj H
         obtain ⟨Ao49,co49,eo49⟩:=Kd.R_slice HO_4.out;subst eo49
         obtain ⟨Ao50,co50,eo50⟩:=Kd.R_slice HO_5.out;subst eo50
         go_wp2_with (first|(go_at_call 9;(with_reducible refine (impl_Between.calls kj5 _ _ t351 true _ ?side1 ?side2 A47.out).mono ?_);(case side1 => exact cU (Kd.R_reads' HO_3.out).2.2);(case side2 => exact (Kd.R_reads' HO_3.out).2.1);rintro e w51 ⟨rfl,hb⟩;have n0_:=Aside0.mk (Kd.R_below (rU HO_3.out) hb);have n1_:=Aside0.mk (Kd.R_below (rU HO_4.out) hb);have n2_:=Aside0.mk (Kd.R_below (rU HO_5.out) hb);have n3_:=Aside0.mk (below_step (belU HB.out) hb);clear HO_3 HO_4 HO_5 HB;have HO_3:=n0_;have HO_4:=n1_;have HO_5:=n2_;have HB:=n3_;clear n0_ n1_ n2_ n3_;(try clear hb);(try clear hb2);(try clear hk);(try clear hi)))
         go_ret
         exact ⟨by first|rfl|(simp [errW_none,errW_some] <;> rfl)|(simp [*,errW_none,errW_some] <;> rfl),belU HB.out⟩
        ·
         replace c48:=Bool.eq_false_iff.mpr c48;subst c48
         have H1 : ((laws_alive.f).bind fun t371 => (some t371)) = some r:=by rw [if_neg (show ¬ (false = true) by decide)] at H;exact H
         clear H;have H:=H1;clear H1
         replace H:=Option.bind_eq_some_iff.mp H
         obtain ⟨t371,A520,H⟩:=H
         replace H : (some t371) = some r:=H
         have A52:=Aside0.mk A520;clear A520
         obtain rfl:=Option.some.inj H
         obtain ⟨Ao53,co53,eo53⟩:=Kd.R_slice HO_4.out;subst eo53
         obtain ⟨Ao54,co54,eo54⟩:=Kd.R_slice HO_5.out;subst eo54
         go_wp2_with (first|(go_at_call 9;(with_reducible refine (impl_Between.calls kj5 _ _ t351 false _ ?side1 ?side2 A47.out).mono ?_);(case side1 => exact cU (Kd.R_reads' HO_3.out).2.2);(case side2 => exact (Kd.R_reads' HO_3.out).2.1);rintro e w55 ⟨rfl,hb⟩;have n0_:=Aside0.mk (Kd.R_below (rU HO_3.out) hb);have n1_:=Aside0.mk (Kd.R_below (rU HO_4.out) hb);have n2_:=Aside0.mk (Kd.R_below (rU HO_5.out) hb);have n3_:=Aside0.mk (below_step (belU HB.out) hb);clear HO_3 HO_4 HO_5 HB;have HO_3:=n0_;have HO_4:=n1_;have HO_5:=n2_;have HB:=n3_;clear n0_ n1_ n2_ n3_;(try clear hb);(try clear hb2);(try clear hk);(try clear hi))|(go_at_call 10;(with_reducible refine (laws_alive.calls  t371 _ A52.out).mono ?_);rintro e w' ⟨rfl,⟨nd,rfl⟩⟩))
         go_ret
         exact ⟨by first|rfl|(simp [errW_none,errW_some] <;> rfl)|(simp [*,errW_none,errW_some] <;> rfl),belU HB.out⟩
       ·
        rw [if_neg c46] at H
        have c46b0 : ((t355.length : Int) == 0) = false:=beq_eq_false_iff_ne.mpr c46
        have c46b1 : ((t355.length : Int) != 0) = true:=bne_iff_ne.mpr c46
        have c46b2 : ¬ (t355 = []):=fun h_ => c46 (by rw [h_];rfl)
        obtain rfl:=Option.some.inj H
        obtain ⟨Ao56,co56,eo56⟩:=Kd.R_slice HO_4.out;subst eo56
        obtain ⟨Ao57,co57,eo57⟩:=Kd.R_slice HO_5.out;subst eo57
        go_wp2
        go_ret
        exact ⟨by first|rfl|(simp [errW_none,errW_some] <;> rfl)|(simp [*,errW_none,errW_some] <;> rfl),belU HB.out⟩
      ·
       rw [if_neg c45] at H
       have c45b0 : ((t354.length : Int) == 0) = false:=beq_eq_false_iff_ne.mpr c45
       have c45b1 : ((t354.length : Int) != 0) = true:=bne_iff_ne.mpr c45
       have c45b2 : ¬ (t354 = []):=fun h_ => c45 (by rw [h_];rfl)
       obtain rfl:=Option.some.inj H
       obtain ⟨Ao58,co58,eo58⟩:=Kd.R_slice HO_4.out;subst eo58
       go_wp2
       go_ret
       exact ⟨by first|rfl|(simp [errW_none,errW_some] <;> rfl)|(simp [*,errW_none,errW_some] <;> rfl),belU HB.out⟩

/-- THE ONE PURE STATEMENT of laws_FnSplitOf: yours. -/
def laws_FnSplitOf.Pure : Prop:=∀ (l0 : List Int),l0.length ≤ maxLen → l0.length * 1 ≤ 140737488351232 → (∀ x ∈ l0,(Lit.int .u8 x).wf = true) → ∃ k,laws_FnSplitOf.f k l0 = some true
end Go.Proofs.Ytmeamfkjfpaciaa.PA
