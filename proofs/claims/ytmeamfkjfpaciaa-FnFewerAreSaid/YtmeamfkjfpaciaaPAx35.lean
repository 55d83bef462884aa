/- The machine side of functions of this seat, written by the session's program myprint.py: for each Go function a Lean function and the proof that the call answers just it. -/
import Derived.Test.YtmeamfkjfpaciaaPAx0
import Derived.Test.YtmeamfkjfpaciaaUp
import Derived.Test.YtmeamfkjfpaciaaPAx5
import Derived.Test.YtmeamfkjfpaciaaPAx18
import Derived.Test.YtmeamfkjfpaciaaPAx25
import Derived.Test.YtmeamfkjfpaciaaPAx27
import Derived.Test.YtmeamfkjfpaciaaPAx28
import Derived.Test.YtmeamfkjfpaciaaPAx29
import Derived.Test.YtmeamfkjfpaciaaPAx30
import Derived.Test.YtmeamfkjfpaciaaPAx32
import Derived.Test.YtmeamfkjfpaciaaPAx34
namespace Go.Proofs.Ytmeamfkjfpaciaa.PA
open Go.RowKit Go.Proofs.YtmeamfkjfpaciaaW.PrintWords Go.Proofs.YtmeamfkjfpaciaaW.PrintLast Go.Proofs.YtmeamfkjfpaciaaW.PrintMore
attribute [local go_sem] max2_int min2_int max_two min_two max_three min_three max_four min_four   -- for this text's walks alone
set_option linter.unusedVariables false
set_option linter.unusedSimpArgs false

/-! ### laws_FnFewerAre: function 4 -/
mutual
def laws_FnFewerAre.l0 : Nat → List Int → Bool → List Int → Int → Option (Bool)
 | 0,_,_,_,_ => none
 | k + 1,x3,x4,x5,x6 => if x6 < 64 then (laws_FnFewerAre.j1 k x3 x4 x5 x6 x4) else (laws_FnFewerAre.j1 k x3 x4 x5 x6 false)
def laws_FnFewerAre.j1 : Nat → List Int → Bool → List Int → Int → Bool → Option (Bool)
 | 0,_,_,_,_,_ => none
 | k + 1,x3,x4,x5,x6,x35 => if x35 = true then (laws_FnFewerAre.l1 k x3 x4 x5 x6 0) else ((impl_NamedTriangle.f (⟨#[101,118,101,114,121]⟩ : ByteArray)).bind fun bt435 => ((impl_FewerAre.f k bt435.1).bind fun t439 => (if t439 = true then ((impl_InsideNot.f k x3).bind fun t440 => ((impl_FewerAre.f k t440).bind fun t443 => (some (t443 == x4)))) else (some false))))
def laws_FnFewerAre.l1 : Nat → List Int → Bool → List Int → Int → Int → Option (Bool)
 | 0,_,_,_,_,_ => none
 | k + 1,x3,x4,x5,x6,x7 => if x7 < 8 then ((laws_insideOf.f k x7 (wrap64 (Int.tdiv x6 8))).bind fun t432 => (if t432 = true then (if 0 ≤ x6 then (if x6 < (x5.length : Int) then (if (rd x5 x6) = 1 then (if 0 ≤ (wrap64 ((wrap64 (x7 * 8)) + (Int.tmod x6 8))) then (if (wrap64 ((wrap64 (x7 * 8)) + (Int.tmod x6 8))) < (x5.length : Int) then (if (rd x5 (wrap64 ((wrap64 (x7 * 8)) + (Int.tmod x6 8)))) = 0 then (some false) else (laws_FnFewerAre.l1 k x3 x4 x5 x6 (wrap64 (x7 + 1)))) else (none)) else (none)) else (laws_FnFewerAre.l1 k x3 x4 x5 x6 (wrap64 (x7 + 1)))) else (none)) else (none)) else (laws_FnFewerAre.l1 k x3 x4 x5 x6 (wrap64 (x7 + 1))))) else (laws_FnFewerAre.l0 k x3 x4 x5 (wrap64 (x6 + 1)))
end
def laws_FnFewerAre.f (k : Nat) (l0 : List Int) : Option (Bool):=if (l0.length : Int) > 1048576 then (some true) else ((spec_DrawFewerAre.f k l0).bind fun t422 => ((impl_FewerAre.f k t422).bind fun t425 => ((spec_FewerAre.f k t422).bind fun t426 => (if (t425 != t426) = true then (some false) else ((spec_TriangleOk.f k t422).bind fun t427 => (if t427 = true then ((spec_RelationFrom.f k 3 t422).bind fun t429 => (laws_FnFewerAre.l0 k t422 t425 t429 0)) else (if t425 = true then (some false) else ((laws_alive.f).bind fun t428 => (some t428)))))))))
theorem laws_FnFewerAre.mono_l : ∀ k,(∀ y0 y1 y2 y3,LeO (laws_FnFewerAre.l0 k y0 y1 y2 y3) (laws_FnFewerAre.l0 (k + 1) y0 y1 y2 y3)) ∧ (∀ y0 y1 y2 y3 y4,LeO (laws_FnFewerAre.j1 k y0 y1 y2 y3 y4) (laws_FnFewerAre.j1 (k + 1) y0 y1 y2 y3 y4)) ∧ (∀ y0 y1 y2 y3 y4,LeO (laws_FnFewerAre.l1 k y0 y1 y2 y3 y4) (laws_FnFewerAre.l1 (k + 1) y0 y1 y2 y3 y4))
 | 0 => ⟨fun _ _ _ _ r h => by simp [laws_FnFewerAre.l0] at h,fun _ _ _ _ _ r h => by simp [laws_FnFewerAre.j1] at h,fun _ _ _ _ _ r h => by simp [laws_FnFewerAre.l1] at h⟩
 | k + 1 => by
  obtain ⟨ih0,ih1,ih2⟩:=laws_FnFewerAre.mono_l k
  refine ⟨?_,?_,?_⟩
  ·
   intro y0 y1 y2 y3
   unfold laws_FnFewerAre.l0
   repeat' first
   | (with_reducible exact ih0 _ _ _ _)
   | (with_reducible exact ih1 _ _ _ _ _)
   | (with_reducible exact ih2 _ _ _ _ _)
   | (with_reducible exact impl_FewerAre.mono _ _)
   | (with_reducible exact impl_InsideNot.mono _ _)
   | (with_reducible exact laws_insideOf.mono _ _ _)
   | (with_reducible exact spec_DrawFewerAre.mono _ _)
   | (with_reducible exact spec_FewerAre.mono _ _)
   | (with_reducible exact spec_RelationFrom.mono _ _ _)
   | (with_reducible exact spec_TriangleOk.mono _ _)
   | (with_reducible exact LeO.refl _)
   | (with_reducible exact LeO.none _)
   | (with_reducible refine LeO.ite ?_ ?_)
   | (with_reducible refine LeO.bind ?_ (fun _ => ?_))
   | exact ih0 _ _ _ _
   | exact ih1 _ _ _ _ _
   | exact ih2 _ _ _ _ _
   | exact impl_FewerAre.mono _ _
   | exact impl_InsideNot.mono _ _
   | exact laws_insideOf.mono _ _ _
   | exact spec_DrawFewerAre.mono _ _
   | exact spec_FewerAre.mono _ _
   | exact spec_RelationFrom.mono _ _ _
   | exact spec_TriangleOk.mono _ _
   | exact LeO.none _
   | refine LeO.ite ?_ ?_
   | refine LeO.bind ?_ (fun _ => ?_)
  ·
   intro y0 y1 y2 y3 y4
   unfold laws_FnFewerAre.j1
   repeat' first
   | (with_reducible exact ih0 _ _ _ _)
   | (with_reducible exact ih1 _ _ _ _ _)
   | (with_reducible exact ih2 _ _ _ _ _)
   | (with_reducible exact impl_FewerAre.mono _ _)
   | (with_reducible exact impl_InsideNot.mono _ _)
   | (with_reducible exact laws_insideOf.mono _ _ _)
   | (with_reducible exact spec_DrawFewerAre.mono _ _)
   | (with_reducible exact spec_FewerAre.mono _ _)
   | (with_reducible exact spec_RelationFrom.mono _ _ _)
   | (with_reducible exact spec_TriangleOk.mono _ _)
   | (with_reducible exact LeO.refl _)
   | (with_reducible exact LeO.none _)
   | (with_reducible refine LeO.ite ?_ ?_)
   | (with_reducible refine LeO.bind ?_ (fun _ => ?_))
   | exact ih0 _ _ _ _
   | exact ih1 _ _ _ _ _
   | exact ih2 _ _ _ _ _
   | exact impl_FewerAre.mono _ _
   | exact impl_InsideNot.mono _ _
   | exact laws_insideOf.mono _ _ _
   | exact spec_DrawFewerAre.mono _ _
   | exact spec_FewerAre.mono _ _
   | exact spec_RelationFrom.mono _ _ _
   | exact spec_TriangleOk.mono _ _
   | exact LeO.none _
   | refine LeO.ite ?_ ?_
   | refine LeO.bind ?_ (fun _ => ?_)
  ·
   intro y0 y1 y2 y3 y4
   unfold laws_FnFewerAre.l1
   repeat' first
   | (with_reducible exact ih0 _ _ _ _)
   | (with_reducible exact ih1 _ _ _ _ _)
   | (with_reducible exact ih2 _ _ _ _ _)
   | (with_reducible exact impl_FewerAre.mono _ _)
   | (with_reducible exact impl_InsideNot.mono _ _)
   | (with_reducible exact laws_insideOf.mono _ _ _)
   | (with_reducible exact spec_DrawFewerAre.mono _ _)
   | (with_reducible exact spec_FewerAre.mono _ _)
   | (with_reducible exact spec_RelationFrom.mono _ _ _)
   | (with_reducible exact spec_TriangleOk.mono _ _)
   | (with_reducible exact LeO.refl _)
   | (with_reducible exact LeO.none _)
   | (with_reducible refine LeO.ite ?_ ?_)
   | (with_reducible refine LeO.bind ?_ (fun _ => ?_))
   | exact ih0 _ _ _ _
   | exact ih1 _ _ _ _ _
   | exact ih2 _ _ _ _ _
   | exact impl_FewerAre.mono _ _
   | exact impl_InsideNot.mono _ _
   | exact laws_insideOf.mono _ _ _
   | exact spec_DrawFewerAre.mono _ _
   | exact spec_FewerAre.mono _ _
   | exact spec_RelationFrom.mono _ _ _
   | exact spec_TriangleOk.mono _ _
   | exact LeO.none _
   | refine LeO.ite ?_ ?_
   | refine LeO.bind ?_ (fun _ => ?_)
theorem laws_FnFewerAre.mono : ∀ a0 k,LeO (laws_FnFewerAre.f k a0) (laws_FnFewerAre.f (k + 1) a0):=by
 intro a0 k
 obtain ⟨ih0,ih1,ih2⟩:=laws_FnFewerAre.mono_l k
 unfold laws_FnFewerAre.f
 repeat' first
   | (with_reducible exact ih0 _ _ _ _)
   | (with_reducible exact ih1 _ _ _ _ _)
   | (with_reducible exact ih2 _ _ _ _ _)
   | (with_reducible exact impl_FewerAre.mono _ _)
   | (with_reducible exact impl_InsideNot.mono _ _)
   | (with_reducible exact laws_insideOf.mono _ _ _)
   | (with_reducible exact spec_DrawFewerAre.mono _ _)
   | (with_reducible exact spec_FewerAre.mono _ _)
   | (with_reducible exact spec_RelationFrom.mono _ _ _)
   | (with_reducible exact spec_TriangleOk.mono _ _)
   | (with_reducible exact LeO.refl _)
   | (with_reducible exact LeO.none _)
   | (with_reducible refine LeO.ite ?_ ?_)
   | (with_reducible refine LeO.bind ?_ (fun _ => ?_))
   | exact ih0 _ _ _ _
   | exact ih1 _ _ _ _ _
   | exact ih2 _ _ _ _ _
   | exact impl_FewerAre.mono _ _
   | exact impl_InsideNot.mono _ _
   | exact laws_insideOf.mono _ _ _
   | exact spec_DrawFewerAre.mono _ _
   | exact spec_FewerAre.mono _ _
   | exact spec_RelationFrom.mono _ _ _
   | exact spec_TriangleOk.mono _ _
   | exact LeO.none _
   | refine LeO.ite ?_ ?_
   | refine LeO.bind ?_ (fun _ => ?_)
set_option maxHeartbeats 8000000 in
set_option maxRecDepth 100000 in
theorem laws_FnFewerAre.calls (k : Nat) (A0 : Option Addr) (c0 : Nat) (l0 : List Int) (r : Bool) (w : World) (hr0 : Kd.C (Kd.int .u8) w A0 l0.length l0) (hc0 : l0.length ≤ c0) (h : laws_FnFewerAre.f k l0 = some r) :
  Calls Try.prog 4 #[.slice A0 l0.length c0] w fun e w' => e = .returned (.bool r) ∧ Below w.heap.size w w':=by
 have HR0:=Aside0.mk hr0
 have HC0:=Aside0.mk hc0;clear hr0 hc0;have HB:=Aside0.mk (Below.refl w.heap.size w)
 have H : (if (l0.length : Int) > 1048576 then (some true) else ((spec_DrawFewerAre.f k l0).bind fun t422 => ((impl_FewerAre.f k t422).bind fun t425 => ((spec_FewerAre.f k t422).bind fun t426 => (if (t425 != t426) = true then (some false) else ((spec_TriangleOk.f k t422).bind fun t427 => (if t427 = true then ((spec_RelationFrom.f k 3 t422).bind fun t429 => (laws_FnFewerAre.l0 k t422 t425 t429 0)) else (if t425 = true then (some false) else ((laws_alive.f).bind fun t428 => (some t428)))))))))) = some r:=h;clear h
 by_cases c2 : (l0.length : Int) > 1048576
 ·
  rw [if_pos c2] at H
  have c2b0 : decide (1048576 < (l0.length : Int)) = true:=decide_eq_true c2
  have c2b1 : decide (1048576 < l0.length) = true:=decide_eq_true (by omega);clear c2
  obtain rfl:=Option.some.inj H
  go_enter Try.func4,Try.ntmps4
  go_wp2
  go_ret
  exact ⟨by first|rfl|(simp [errW_none,errW_some] <;> rfl)|(simp [*,errW_none,errW_some] <;> rfl),belU HB.out⟩
 ·
  rw [if_neg c2] at H
  have c2b0 : decide (1048576 < (l0.length : Int)) = false:=decide_eq_false c2
  have c2b1 : decide (1048576 < l0.length) = false:=decide_eq_false (by omega);clear c2
  replace H:=Option.bind_eq_some_iff.mp H
  obtain ⟨t422,A30,H⟩:=H
  replace H : ((impl_FewerAre.f k t422).bind fun t425 => ((spec_FewerAre.f k t422).bind fun t426 => (if (t425 != t426) = true then (some false) else ((spec_TriangleOk.f k t422).bind fun t427 => (if t427 = true then ((spec_RelationFrom.f k 3 t422).bind fun t429 => (laws_FnFewerAre.l0 k t422 t425 t429 0)) else (if t425 = true then (some false) else ((laws_alive.f).bind fun t428 => (some t428)))))))) = some r:=H
  have A3:=Aside0.mk A30;clear A30
  replace H:=Option.bind_eq_some_iff.mp H
  obtain ⟨t425,A40,H⟩:=H
  replace H : ((spec_FewerAre.f k t422).bind fun t426 => (if (t425 != t426) = true then (some false) else ((spec_TriangleOk.f k t422).bind fun t427 => (if t427 = true then ((spec_RelationFrom.f k 3 t422).bind fun t429 => (laws_FnFewerAre.l0 k t422 t425 t429 0)) else (if t425 = true then (some false) else ((laws_alive.f).bind fun t428 => (some t428))))))) = some r:=H
  have A4:=Aside0.mk A40;clear A40
  replace H:=Option.bind_eq_some_iff.mp H
  obtain ⟨t426,A50,H⟩:=H
  replace H : (if (t425 != t426) = true then (some false) else ((spec_TriangleOk.f k t422).bind fun t427 => (if t427 = true then ((spec_RelationFrom.f k 3 t422).bind fun t429 => (laws_FnFewerAre.l0 k t422 t425 t429 0)) else (if t425 = true then (some false) else ((laws_alive.f).bind fun t428 => (some t428)))))) = some r:=H
  have A5:=Aside0.mk A50;clear A50
  by_cases c6 : (t425 != t426) = true
  ·
   rw [if_pos c6] at H
   have c6b0 : (t425 != t426) = true:=c6
   (try (have c6b1 : decide (t425 = t426) = false:=by simpa using c6))
   (try (have c6b2 : (t425 == t426) = false:=by simpa using c6))
   (try (have c6b3 : ¬ (t425 = t426):=by simpa using c6));clear c6
   obtain rfl:=Option.some.inj H
   go_enter Try.func4,Try.ntmps4
   go_wp2_with (first|((with_reducible refine gate_callee (f:=14) rfl ?_);refine goesL_ (some 14) rfl rfl Try.func14 (by kernel_rfl) rfl #[.slice A0 l0.length c0] rfl (by (try simp only [List.map_toArray,List.map_cons,List.map_nil]);first|done|rfl|(simp only [List.length_drop,List.length_take];rfl)) ?_;(with_reducible refine (spec_DrawFewerAre.calls k _ _ l0 t422 _ ?side1 ?side2 A3.out).mono ?_);(case side1 => repeat (first|exact HR0.out|(with_reducible refine Kd.C_alloc ?_ _)|(with_reducible refine Kd.C_drewN ?_ _)|(with_reducible refine Kd.C_drew ?_)));(case side2 => exact HC0.out);rintro e w7 ⟨v423,rfl,ho0,hb⟩;refine ⟨_,rfl,?_⟩;have n0_:=Aside0.mk (Kd.R_lower ho0 (below_size (belU HB.out)));have n1_:=Aside0.mk (below_step (belU HB.out) hb);clear HB;have HO424:=n0_;have HB:=n1_;clear n0_ n1_;(try clear hb);(try clear hb2);(try clear hk);(try clear hi);(try clear ho0);obtain ⟨Ao8,co8,eo8⟩:=Kd.R_slice HO424.out;subst eo8)|((with_reducible refine gate_callee (f:=15) rfl ?_);refine goesL_ (some 16) rfl rfl Try.func15 (by kernel_rfl) rfl #[.slice Ao8 t422.length co8] rfl (by (try simp only [List.map_toArray,List.map_cons,List.map_nil]);first|done|rfl|(simp only [List.length_drop,List.length_take];rfl)) ?_;(with_reducible refine (impl_FewerAre.calls k _ _ t422 t425 _ ?side1 ?side2 A4.out).mono ?_);(case side1 => exact cU (Kd.R_reads' HO424.out).2.2);(case side2 => exact (Kd.R_reads' HO424.out).2.1);rintro e w9 ⟨rfl,hb⟩;refine ⟨_,rfl,?_⟩;have n0_:=Aside0.mk (Kd.R_below (rU HO424.out) hb);have n1_:=Aside0.mk (below_step (belU HB.out) hb);clear HO424 HB;have HO424:=n0_;have HB:=n1_;clear n0_ n1_;(try clear hb);(try clear hb2);(try clear hk);(try clear hi))|((with_reducible refine gate_callee (f:=16) rfl ?_);refine goesL_ (some 19) rfl rfl Try.func16 (by kernel_rfl) rfl #[.slice Ao8 t422.length co8] rfl (by (try simp only [List.map_toArray,List.map_cons,List.map_nil]);first|done|rfl|(simp only [List.length_drop,List.length_take];rfl)) ?_;(with_reducible refine (spec_FewerAre.calls k _ _ t422 t426 _ ?side1 ?side2 A5.out).mono ?_);(case side1 => exact cU (Kd.R_reads' HO424.out).2.2);(case side2 => exact (Kd.R_reads' HO424.out).2.1);rintro e w' ⟨rfl,⟨nd,rfl⟩⟩;refine ⟨_,rfl,?_⟩))
   go_ret
   exact ⟨by first|rfl|(simp [errW_none,errW_some] <;> rfl)|(simp [*,errW_none,errW_some] <;> rfl),belU HB.out⟩
  ·
   rw [if_neg c6] at H
   have c6b0 : (t425 != t426) = false:=by simpa using c6
   (try (have c6b1 : decide (t425 = t426) = true:=by simpa using c6))
   (try (have c6b2 : (t425 == t426) = true:=by simpa using c6));clear c6
   replace H:=Option.bind_eq_some_iff.mp H
   obtain ⟨t427,A100,H⟩:=H
   replace H : (if t427 = true then ((spec_RelationFrom.f k 3 t422).bind fun t429 => (laws_FnFewerAre.l0 k t422 t425 t429 0)) else (if t425 = true then (some false) else ((laws_alive.f).bind fun t428 => (some t428)))) = some r:=H
   have A10:=Aside0.mk A100;clear A100
   by_cases c11 : t427 = true
   ·
    subst c11
    have H1 : ((spec_RelationFrom.f k 3 t422).bind fun t429 => (laws_FnFewerAre.l0 k t422 t425 t429 0)) = some r:=by rw [if_pos rfl] at H;exact H
    clear H;have H:=H1;clear H1
    replace H:=Option.bind_eq_some_iff.mp H
    obtain ⟨t429,A120,H⟩:=H
    replace H : (laws_FnFewerAre.l0 k t422 t425 t429 0) = some r:=H
    have A12:=Aside0.mk A120;clear A120
    have H':=Aside0.mk H;clear H
    go_enter Try.func4,Try.ntmps4
    go_wp2_with (first|((with_reducible refine gate_callee (f:=14) rfl ?_);refine goesL_ (some 14) rfl rfl Try.func14 (by kernel_rfl) rfl #[.slice A0 l0.length c0] rfl (by (try simp only [List.map_toArray,List.map_cons,List.map_nil]);first|done|rfl|(simp only [List.length_drop,List.length_take];rfl)) ?_;(with_reducible refine (spec_DrawFewerAre.calls k _ _ l0 t422 _ ?side1 ?side2 A3.out).mono ?_);(case side1 => repeat (first|exact HR0.out|(with_reducible refine Kd.C_alloc ?_ _)|(with_reducible refine Kd.C_drewN ?_ _)|(with_reducible refine Kd.C_drew ?_)));(case side2 => exact HC0.out);rintro e w13 ⟨v423,rfl,ho0,hb⟩;refine ⟨_,rfl,?_⟩;have n0_:=Aside0.mk (Kd.R_lower ho0 (below_size (belU HB.out)));have n1_:=Aside0.mk (below_step (belU HB.out) hb);clear HB;have HO424:=n0_;have HB:=n1_;clear n0_ n1_;(try clear hb);(try clear hb2);(try clear hk);(try clear hi);(try clear ho0);obtain ⟨Ao14,co14,eo14⟩:=Kd.R_slice HO424.out;subst eo14)|((with_reducible refine gate_callee (f:=15) rfl ?_);refine goesL_ (some 16) rfl rfl Try.func15 (by kernel_rfl) rfl #[.slice Ao14 t422.length co14] rfl (by (try simp only [List.map_toArray,List.map_cons,List.map_nil]);first|done|rfl|(simp only [List.length_drop,List.length_take];rfl)) ?_;(with_reducible refine (impl_FewerAre.calls k _ _ t422 t425 _ ?side1 ?side2 A4.out).mono ?_);(case side1 => exact cU (Kd.R_reads' HO424.out).2.2);(case side2 => exact (Kd.R_reads' HO424.out).2.1);rintro e w15 ⟨rfl,hb⟩;refine ⟨_,rfl,?_⟩;have n0_:=Aside0.mk (Kd.R_below (rU HO424.out) hb);have n1_:=Aside0.mk (below_step (belU HB.out) hb);clear HO424 HB;have HO424:=n0_;have HB:=n1_;clear n0_ n1_;(try clear hb);(try clear hb2);(try clear hk);(try clear hi))|((with_reducible refine gate_callee (f:=16) rfl ?_);refine goesL_ (some 19) rfl rfl Try.func16 (by kernel_rfl) rfl #[.slice Ao14 t422.length co14] rfl (by (try simp only [List.map_toArray,List.map_cons,List.map_nil]);first|done|rfl|(simp only [List.length_drop,List.length_take];rfl)) ?_;(with_reducible refine (spec_FewerAre.calls k _ _ t422 t426 _ ?side1 ?side2 A5.out).mono ?_);(case side1 => exact cU (Kd.R_reads' HO424.out).2.2);(case side2 => exact (Kd.R_reads' HO424.out).2.1);rintro e w' ⟨rfl,⟨nd,rfl⟩⟩;refine ⟨_,rfl,?_⟩)|((with_reducible refine gate_callee (f:=17) rfl ?_);refine goesL_ (some 22) rfl rfl Try.func17 (by kernel_rfl) rfl #[.slice Ao14 t422.length co14] rfl (by (try simp only [List.map_toArray,List.map_cons,List.map_nil]);first|done|rfl|(simp only [List.length_drop,List.length_take];rfl)) ?_;(with_reducible refine (spec_TriangleOk.calls k _ _ t422 true _ ?side1 ?side2 A10.out).mono ?_);(case side1 => exact cU (Kd.R_reads' HO424.out).2.2);(case side2 => exact (Kd.R_reads' HO424.out).2.1);rintro e w' ⟨rfl,⟨nd,rfl⟩⟩;refine ⟨_,rfl,?_⟩)|((with_reducible refine gate_callee (f:=18) rfl ?_);refine goesL_ (some 30) rfl rfl Try.func18 (by kernel_rfl) rfl #[.int .i64 3,.slice Ao14 t422.length co14] rfl (by (try simp only [List.map_toArray,List.map_cons,List.map_nil]);first|done|rfl|(simp only [List.length_drop,List.length_take];rfl)) ?_;(with_reducible refine (spec_RelationFrom.calls k 3 _ _ t422 t429 _ ?side1 ?side2 A12.out).mono ?_);(case side1 => exact cU (Kd.R_reads' HO424.out).2.2);(case side2 => exact (Kd.R_reads' HO424.out).2.1);rintro e w16 ⟨v430,rfl,ho0,hb⟩;refine ⟨_,rfl,?_⟩;have n0_:=Aside0.mk (Kd.R_elder' (rU HO424.out) (Kd.R_base ho0) hb);have n1_:=Aside0.mk (Kd.R_lower (Kd.R_new' ho0 (Kd.R_lt (rU HO424.out))) (below_size (belU HB.out)));have n2_:=Aside0.mk (below_step (belU HB.out) hb);clear HO424 HB;have HO424:=n0_;have HO431:=n1_;have HB:=n2_;clear n0_ n1_ n2_;(try clear hb);(try clear hb2);(try clear hk);(try clear hi);(try clear ho0)))
    go_loopg [6] k (fun kq v6 w' => ∃ (x6_1 : Int),v6 = .int .i64 x6_1 ∧ Aside0 (laws_FnFewerAre.l0 kq t422 t425 t429 x6_1 = some r) ∧ Aside0 (kq ≤ k) ∧ Aside0 (Kd.R (Kd.int .i64) 3 w' w.heap.size (fun k_ => some k_ ≠ (v430 : Value).ownBlock) (.slice Ao14 t422.length co14) t422) ∧ Aside0 (Kd.R (Kd.int .i64) 3 w' w.heap.size (fun k_ => some k_ ≠ ((.slice Ao14 t422.length co14) : Value).ownBlock) v430 t429) ∧ Aside0 (Below w.heap.size w w'))
    case atStart => exact ⟨(0),(by first|rfl|(simp;done)|(simp [*];done)),H',⟨Nat.le_refl _⟩,⟨by (with_reducible repeat (first|apply Kd.R_alloc|apply Kd.R_drewN|apply Kd.R_drew));exact Kd.R_mono HO424.out (fun _ hk => hk.2)⟩,⟨by (with_reducible repeat (first|apply Kd.R_alloc|apply Kd.R_drewN|apply Kd.R_drew));exact Kd.R_mono HO431.out (fun _ hk => hk.2)⟩,⟨belU HB.out⟩⟩
    case round =>
     clear H'
     try clear c1
     try clear c2
     try clear c2b0
     try clear c2b1
     try clear p2
     try clear c4
     try clear c6
     try clear c6b0
     try clear c6b1
     try clear c6b2
     try clear c11
     try clear c14
     try clear c15
     try clear c16
     obtain ⟨x6_1,rfl,HA,HK1,HO_3,HO_5,HB⟩:=hrel
     cases gk with
     | zero => exact absurd HA.out (by simp [laws_FnFewerAre.l0])
     | succ k1 =>
      have H:=HA.out;clear HA
      simp only [laws_FnFewerAre.l0] at H
      have HC17:=Aside0.mk H;clear H
      go_upto_region 11 with (fail)
      go_cut [35] (fun v35 wc => ∃ (kq : Nat) (x35_16 : Bool),v35 = .bool x35_16 ∧ Aside0 (laws_FnFewerAre.j1 kq t422 t425 t429 x6_1 x35_16 = some r) ∧ Aside0 (kq ≤ k1) ∧ Aside0 (Kd.R (Kd.int .i64) 3 wc w.heap.size (fun k_ => some k_ ≠ (v430 : Value).ownBlock) (.slice Ao14 t422.length co14) t422) ∧ Aside0 (Kd.R (Kd.int .i64) 3 wc w.heap.size (fun k_ => some k_ ≠ ((.slice Ao14 t422.length co14) : Value).ownBlock) v430 t429) ∧ Aside0 (Below w.heap.size w wc))
      case first =>
       have H:=HC17.out;clear HC17
       by_cases c18 : x6_1 < 64
       ·
        rw [if_pos c18] at H
        have c18b0 : decide (x6_1 < 64) = true:=decide_eq_true c18;clear c18
        (first|rw [c18b0]|(simp only [i64_w,i32_w];rw [c18b0])|skip)
        have H':=Aside0.mk H;clear H
        go_wp2
        go_meet
        case rel => exact ⟨_,(t425),(by first|rfl|(simp;done)|(simp [*];done)),H',⟨by have:=HK1.out;first|omega|exact Nat.le_refl _⟩,⟨rU HO_3.out⟩,⟨rU HO_5.out⟩,⟨belU HB.out⟩⟩
       ·
        rw [if_neg c18] at H
        have c18b0 : decide (x6_1 < 64) = false:=decide_eq_false c18;clear c18
        (first|rw [c18b0]|(simp only [i64_w,i32_w];rw [c18b0])|skip)
        have H':=Aside0.mk H;clear H
        go_wp2
        go_meet
        case rel => exact ⟨_,(false),(by first|rfl|(simp;done)|(simp [*];done)),H',⟨by have:=HK1.out;first|omega|exact Nat.le_refl _⟩,⟨rU HO_3.out⟩,⟨rU HO_5.out⟩,⟨belU HB.out⟩⟩
      case rest =>
       clear HC17
       try clear c1
       try clear c2
       try clear c2b0
       try clear c2b1
       try clear p2
       try clear c4
       try clear c6
       try clear c6b0
       try clear c6b1
       try clear c6b2
       try clear c11
       try clear c14
       try clear c15
       try clear c16
       try clear c17
       try clear c18
       try clear c18b0
       try clear p2
       obtain ⟨kq,x35_16,rfl,HA,HJ16,HO_3,HO_5,HB⟩:=hcut
       cases kq with
       | zero => exact absurd HA.out (by simp [laws_FnFewerAre.j1])
       | succ kj16 =>
        have H:=HA.out;clear HA
        simp only [laws_FnFewerAre.j1] at H
        by_cases c19 : x35_16 = true
        ·
         subst c19
         have H1 : (laws_FnFewerAre.l1 kj16 t422 t425 t429 x6_1 0) = some r:=by rw [if_pos rfl] at H;exact H
         clear H;have H:=H1;clear H1
         have H':=Aside0.mk H;clear H
         go_wp2
         go_loopg [7] kj16 (fun kq v7 w' => ∃ (x7_3 : Int),v7 = .int .i64 x7_3 ∧ Aside0 (laws_FnFewerAre.l1 kq t422 t425 t429 x6_1 x7_3 = some r) ∧ Aside0 (kq ≤ kj16) ∧ Aside0 (Kd.R (Kd.int .i64) 3 w' w.heap.size (fun k_ => some k_ ≠ (v430 : Value).ownBlock) (.slice Ao14 t422.length co14) t422) ∧ Aside0 (Kd.R (Kd.int .i64) 3 w' w.heap.size (fun k_ => some k_ ≠ ((.slice Ao14 t422.length co14) : Value).ownBlock) v430 t429) ∧ Aside0 (Below w.heap.size w w'))
         case atStart => exact ⟨(0),(by first|rfl|(simp;done)|(simp [*];done)),H',⟨Nat.le_refl _⟩,⟨rU HO_3.out⟩,⟨rU HO_5.out⟩,⟨belU HB.out⟩⟩
         case round =>
          clear H'
          try clear c1
          try clear c2
          try clear c2b0
          try clear c2b1
          try clear p2
          try clear c4
          try clear c6
          try clear c6b0
          try clear c6b1
          try clear c6b2
          try clear c11
          try clear c14
          try clear c15
          try clear c16
          try clear c17
          try clear c18
          try clear c18b0
          try clear c19
          try clear p2
          obtain ⟨x7_3,rfl,HA,HK3,HO_3,HO_5,HB⟩:=hrel
          cases gk with
          | zero => exact absurd HA.out (by simp [laws_FnFewerAre.l1])
          | succ k3 =>
           have H:=HA.out;clear HA
           simp only [laws_FnFewerAre.l1] at H
           by_cases c20 : x7_3 < 8
           ·
            rw [if_pos c20] at H
            have c20b0 : decide (x7_3 < 8) = true:=decide_eq_true c20;clear c20
            replace H:=Option.bind_eq_some_iff.mp H
            obtain ⟨t432,A210,H⟩:=H
            replace H : (if t432 = true then (if 0 ≤ x6_1 then (if x6_1 < (t429.length : Int) then (if (rd t429 x6_1) = 1 then (if 0 ≤ (wrap64 ((wrap64 (x7_3 * 8)) + (Int.tmod x6_1 8))) then (if (wrap64 ((wrap64 (x7_3 * 8)) + (Int.tmod x6_1 8))) < (t429.length : Int) then (if (rd t429 (wrap64 ((wrap64 (x7_3 * 8)) + (Int.tmod x6_1 8)))) = 0 then (some false) else (laws_FnFewerAre.l1 k3 t422 t425 t429 x6_1 (wrap64 (x7_3 + 1)))) else (none)) else (none)) else (laws_FnFewerAre.l1 k3 t422 t425 t429 x6_1 (wrap64 (x7_3 + 1)))) else (none)) else (none)) else (laws_FnFewerAre.l1 k3 t422 t425 t429 x6_1 (wrap64 (x7_3 + 1)))) = some r:=H
            have A21:=Aside0.mk A210;clear A210
            by_cases c22 : t432 = true
            ·
             subst c22
             have H1 : (if 0 ≤ x6_1 then (if x6_1 < (t429.length : Int) then (if (rd t429 x6_1) = 1 then (if 0 ≤ (wrap64 ((wrap64 (x7_3 * 8)) + (Int.tmod x6_1 8))) then (if (wrap64 ((wrap64 (x7_3 * 8)) + (Int.tmod x6_1 8))) < (t429.length : Int) then (if (rd t429 (wrap64 ((wrap64 (x7_3 * 8)) + (Int.tmod x6_1 8)))) = 0 then (some false) else (laws_FnFewerAre.l1 k3 t422 t425 t429 x6_1 (wrap64 (x7_3 + 1)))) else (none)) else (none)) else (laws_FnFewerAre.l1 k3 t422 t425 t429 x6_1 (wrap64 (x7_3 + 1)))) else (none)) else (none)) = some r:=by rw [if_pos rfl] at H;exact H
             clear H;have H:=H1;clear H1
             by_cases c23 : 0 ≤ x6_1
             ·
              rw [if_pos c23] at H
              have c23b0 : decide (0 ≤ x6_1) = true:=decide_eq_true c23;clear c23
              by_cases c24 : x6_1 < (t429.length : Int)
              ·
               rw [if_pos c24] at H
               have c24b0 : decide (x6_1 < (t429.length : Int)) = true:=decide_eq_true c24;clear c24
               by_cases c25 : (rd t429 x6_1) = 1
               ·
                rw [if_pos c25] at H
                have c25b0 : ((rd t429 x6_1) == 1) = true:=beq_iff_eq.mpr c25
                have c25b1 : ((rd t429 x6_1) != 1) = false:=bne_eq_false_iff_eq.mpr c25;clear c25
                obtain ⟨ji26,hji26⟩ : ∃ j_ : Int,(wrap64 ((wrap64 (x7_3 * 8)) + (Int.tmod x6_1 8))) = j_:=⟨_,rfl⟩
                replace H : (if 0 ≤ (ji26) then (if (ji26) < (t429.length : Int) then (if (rd t429 (ji26)) = 0 then (some false) else (laws_FnFewerAre.l1 k3 t422 t425 t429 x6_1 (wrap64 (x7_3 + 1)))) else (none)) else (none)) = some r:=by first|(rw [hji26] at H;exact H)|(simp only [hji26] at H ⊢;exact H)
                (try rw [hji26] at A21)
                have hji26w : (IntKind.i64.wrap ((wrap64 (x7_3 * 8)) + (Int.tmod x6_1 8))) = ji26:=(i64_w _).trans hji26
                by_cases c27 : 0 ≤ (ji26)
                ·
                 rw [if_pos c27] at H
                 have c27b0 : decide (0 ≤ (ji26)) = true:=decide_eq_true c27;clear c27
                 by_cases c28 : (ji26) < (t429.length : Int)
                 ·
                  rw [if_pos c28] at H
                  have c28b0 : decide ((ji26) < (t429.length : Int)) = true:=decide_eq_true c28;clear c28
                  by_cases c29 : (rd t429 (ji26)) = 0
                  ·
                   rw [if_pos c29] at H
                   have c29b0 : ((rd t429 (ji26)) == 0) = true:=beq_iff_eq.mpr c29
                   have c29b1 : ((rd t429 (ji26)) != 0) = false:=bne_eq_false_iff_eq.mpr c29;clear c29
                   obtain rfl:=Option.some.inj H
                   go_wp2_with (first|((with_reducible refine gate_callee (f:=19) rfl ?_);refine goesL_ (some 45) rfl rfl Try.func19 (by kernel_rfl) rfl #[.int .i64 x7_3,.int .i64 (wrap64 (Int.tdiv x6_1 8))] rfl (by (try simp only [List.map_toArray,List.map_cons,List.map_nil]);first|done|rfl|(simp only [List.length_drop,List.length_take];rfl)) ?_;(with_reducible refine (laws_insideOf.calls k3 x7_3 (wrap64 (Int.tdiv x6_1 8)) true _ A21.out).mono ?_);rintro e w' ⟨rfl,⟨nd,rfl⟩⟩;refine ⟨_,rfl,?_⟩;obtain ⟨Ao30,co30,eo30⟩:=Kd.R_slice HO_5.out;subst eo30;have p433 : 0 ≤ (x6_1 : Int):=of_decide_eq_true (by first|(with_reducible assumption)|assumption);have q433 : x6_1 < (t429.length : Int):=of_decide_eq_true (by first|(with_reducible assumption)|assumption);obtain ⟨ad433,e433,hx433_0⟩:=Kd.at_int (Kd.R_reads' HO_5.out).2.2 x6_1 p433 q433;cases e433;replace p433:=eq_true p433;replace q433:=eq_true q433;have p434 : 0 ≤ ((ji26) : Int):=of_decide_eq_true (by first|(with_reducible assumption)|assumption);have q434 : (ji26) < (t429.length : Int):=of_decide_eq_true (by first|(with_reducible assumption)|assumption);obtain ⟨ad434,e434,hx434_0⟩:=Kd.at_int (Kd.R_reads' HO_5.out).2.2 (ji26) p434 q434;obtain rfl : ad433 = ad434:=(by injection e434);replace p434:=eq_true p434;replace q434:=eq_true q434))
                   go_ret
                   exact ⟨by first|rfl|(simp [errW_none,errW_some] <;> rfl)|(simp only [← hji26];first|rfl|(simp [errW_none,errW_some] <;> rfl))|(simp [*,errW_none,errW_some] <;> rfl),belU HB.out⟩
                  ·
                   rw [if_neg c29] at H
                   have c29b0 : ((rd t429 (ji26)) == 0) = false:=beq_eq_false_iff_ne.mpr c29
                   have c29b1 : ((rd t429 (ji26)) != 0) = true:=bne_iff_ne.mpr c29
                   have H':=Aside0.mk H;clear H
                   go_wp2_with (first|((with_reducible refine gate_callee (f:=19) rfl ?_);refine goesL_ (some 45) rfl rfl Try.func19 (by kernel_rfl) rfl #[.int .i64 x7_3,.int .i64 (wrap64 (Int.tdiv x6_1 8))] rfl (by (try simp only [List.map_toArray,List.map_cons,List.map_nil]);first|done|rfl|(simp only [List.length_drop,List.length_take];rfl)) ?_;(with_reducible refine (laws_insideOf.calls k3 x7_3 (wrap64 (Int.tdiv x6_1 8)) true _ A21.out).mono ?_);rintro e w' ⟨rfl,⟨nd,rfl⟩⟩;refine ⟨_,rfl,?_⟩;obtain ⟨Ao31,co31,eo31⟩:=Kd.R_slice HO_5.out;subst eo31;have p433 : 0 ≤ (x6_1 : Int):=of_decide_eq_true (by first|(with_reducible assumption)|assumption);have q433 : x6_1 < (t429.length : Int):=of_decide_eq_true (by first|(with_reducible assumption)|assumption);obtain ⟨ad433,e433,hx433_0⟩:=Kd.at_int (Kd.R_reads' HO_5.out).2.2 x6_1 p433 q433;cases e433;replace p433:=eq_true p433;replace q433:=eq_true q433;have p434 : 0 ≤ ((ji26) : Int):=of_decide_eq_true (by first|(with_reducible assumption)|assumption);have q434 : (ji26) < (t429.length : Int):=of_decide_eq_true (by first|(with_reducible assumption)|assumption);obtain ⟨ad434,e434,hx434_0⟩:=Kd.at_int (Kd.R_reads' HO_5.out).2.2 (ji26) p434 q434;obtain rfl : ad433 = ad434:=(by injection e434);replace p434:=eq_true p434;replace q434:=eq_true q434))
                   go_roundg k3
                   case measure => have:=HK1.out;have:=HJ16.out;have:=HK3.out;omega
                   case rel => exact ⟨(wrap64 (x7_3 + 1)),(by first|rfl|(simp;done)|(simp [*];done)),H',⟨by have:=HK1.out;have:=HJ16.out;have:=HK3.out;omega⟩,⟨rU HO_3.out⟩,⟨rU HO_5.out⟩,⟨belU HB.out⟩⟩
                 ·
                  rw [if_neg c28] at H
                  exact absurd H (by simp)
                ·
                 rw [if_neg c27] at H
                 exact absurd H (by simp)
               ·
                rw [if_neg c25] at H
                have c25b0 : ((rd t429 x6_1) == 1) = false:=beq_eq_false_iff_ne.mpr c25
                have c25b1 : ((rd t429 x6_1) != 1) = true:=bne_iff_ne.mpr c25
                have H':=Aside0.mk H;clear H
                go_wp2_with (first|((with_reducible refine gate_callee (f:=19) rfl ?_);refine goesL_ (some 45) rfl rfl Try.func19 (by kernel_rfl) rfl #[.int .i64 x7_3,.int .i64 (wrap64 (Int.tdiv x6_1 8))] rfl (by (try simp only [List.map_toArray,List.map_cons,List.map_nil]);first|done|rfl|(simp only [List.length_drop,List.length_take];rfl)) ?_;(with_reducible refine (laws_insideOf.calls k3 x7_3 (wrap64 (Int.tdiv x6_1 8)) true _ A21.out).mono ?_);rintro e w' ⟨rfl,⟨nd,rfl⟩⟩;refine ⟨_,rfl,?_⟩;obtain ⟨Ao32,co32,eo32⟩:=Kd.R_slice HO_5.out;subst eo32;have p433 : 0 ≤ (x6_1 : Int):=of_decide_eq_true (by first|(with_reducible assumption)|assumption);have q433 : x6_1 < (t429.length : Int):=of_decide_eq_true (by first|(with_reducible assumption)|assumption);obtain ⟨ad433,e433,hx433_0⟩:=Kd.at_int (Kd.R_reads' HO_5.out).2.2 x6_1 p433 q433;cases e433;replace p433:=eq_true p433;replace q433:=eq_true q433))
                go_roundg k3
                case measure => have:=HK1.out;have:=HJ16.out;have:=HK3.out;omega
                case rel => exact ⟨(wrap64 (x7_3 + 1)),(by first|rfl|(simp;done)|(simp [*];done)),H',⟨by have:=HK1.out;have:=HJ16.out;have:=HK3.out;omega⟩,⟨rU HO_3.out⟩,⟨rU HO_5.out⟩,⟨belU HB.out⟩⟩
              ·
               rw [if_neg c24] at H
               exact absurd H (by simp)
             ·
              rw [if_neg c23] at H
              exact absurd H (by simp)
            ·
             replace c22:=Bool.eq_false_iff.mpr c22;subst c22
             have H1 : (laws_FnFewerAre.l1 k3 t422 t425 t429 x6_1 (wrap64 (x7_3 + 1))) = some r:=by rw [if_neg (show ¬ (false = true) by decide)] at H;exact H
             clear H;have H:=H1;clear H1
             have H':=Aside0.mk H;clear H
             go_wp2_with (first|((with_reducible refine gate_callee (f:=19) rfl ?_);refine goesL_ (some 45) rfl rfl Try.func19 (by kernel_rfl) rfl #[.int .i64 x7_3,.int .i64 (wrap64 (Int.tdiv x6_1 8))] rfl (by (try simp only [List.map_toArray,List.map_cons,List.map_nil]);first|done|rfl|(simp only [List.length_drop,List.length_take];rfl)) ?_;(with_reducible refine (laws_insideOf.calls k3 x7_3 (wrap64 (Int.tdiv x6_1 8)) false _ A21.out).mono ?_);rintro e w' ⟨rfl,⟨nd,rfl⟩⟩;refine ⟨_,rfl,?_⟩))
             go_roundg k3
             case measure => have:=HK1.out;have:=HJ16.out;have:=HK3.out;omega
             case rel => exact ⟨(wrap64 (x7_3 + 1)),(by first|rfl|(simp;done)|(simp [*];done)),H',⟨by have:=HK1.out;have:=HJ16.out;have:=HK3.out;omega⟩,⟨rU HO_3.out⟩,⟨rU HO_5.out⟩,⟨belU HB.out⟩⟩
           ·
            rw [if_neg c20] at H
            have c20b0 : decide (x7_3 < 8) = false:=decide_eq_false c20;clear c20
            have H':=Aside0.mk H;clear H
            go_wp2
            go_roundg k3
            case measure => have:=HK1.out;have:=HJ16.out;have:=HK3.out;omega
            case rel => exact ⟨(wrap64 (x6_1 + 1)),(by first|rfl|(simp;done)|(simp [*];done)),H',⟨by have:=HK1.out;have:=HJ16.out;have:=HK3.out;omega⟩,⟨rU HO_3.out⟩,⟨rU HO_5.out⟩,⟨belU HB.out⟩⟩
        ·
         replace c19:=Bool.eq_false_iff.mpr c19;subst c19
         have H1 : ((impl_NamedTriangle.f (⟨#[101,118,101,114,121]⟩ : ByteArray)).bind fun bt435 => ((impl_FewerAre.f kj16 bt435.1).bind fun t439 => (if t439 = true then ((impl_InsideNot.f kj16 t422).bind fun t440 => ((impl_FewerAre.f kj16 t440).bind fun t443 => (some (t443 == t425)))) else (some false)))) = some r:=by rw [if_neg (show ¬ (false = true) by decide)] at H;exact H
         clear H;have H:=H1;clear H1
         replace H:=Option.bind_eq_some_iff.mp H
         obtain ⟨⟨t435,t436⟩,A330,H⟩:=H
         replace H : ((impl_FewerAre.f kj16 t435).bind fun t439 => (if t439 = true then ((impl_InsideNot.f kj16 t422).bind fun t440 => ((impl_FewerAre.f kj16 t440).bind fun t443 => (some (t443 == t425)))) else (some false))) = some r:=H
         have A33:=Aside0.mk A330;clear A330
         replace H:=Option.bind_eq_some_iff.mp H
         obtain ⟨t439,A340,H⟩:=H
         replace H : (if t439 = true then ((impl_InsideNot.f kj16 t422).bind fun t440 => ((impl_FewerAre.f kj16 t440).bind fun t443 => (some (t443 == t425)))) else (some false)) = some r:=H
         have A34:=Aside0.mk A340;clear A340
         by_cases c35 : t439 = true
         ·
          subst c35
          have H1 : ((impl_InsideNot.f kj16 t422).bind fun t440 => ((impl_FewerAre.f kj16 t440).bind fun t443 => (some (t443 == t425)))) = some r:=by rw [if_pos rfl] at H;exact H
          clear H;have H:=H1;clear H1
          replace H:=Option.bind_eq_some_iff.mp H
          obtain ⟨t440,A360,H⟩:=H
          replace H : ((impl_FewerAre.f kj16 t440).bind fun t443 => (some (t443 == t425))) = some r:=H
          have A36:=Aside0.mk A360;clear A360
          replace H:=Option.bind_eq_some_iff.mp H
          obtain ⟨t443,A370,H⟩:=H
          replace H : (some (t443 == t425)) = some r:=H
          have A37:=Aside0.mk A370;clear A370
          obtain rfl:=Option.some.inj H
          go_wp2_with (first|((with_reducible refine gate_callee (f:=20) rfl ?_);refine goesL_ (some 65) rfl rfl Try.func20 (by kernel_rfl) rfl #[.string (⟨#[101,118,101,114,121]⟩ : ByteArray)] rfl (by (try simp only [List.map_toArray,List.map_cons,List.map_nil]);first|done|rfl|(simp only [List.length_drop,List.length_take];rfl)) ?_;(with_reducible refine (impl_NamedTriangle.calls (⟨#[101,118,101,114,121]⟩ : ByteArray) t435 t436 _ A33.out).mono ?_);rintro e w38 ⟨v437,rfl,ho0,hb⟩;refine ⟨_,rfl,?_⟩;have n0_:=Aside0.mk (Kd.R_elder' (rU HO_3.out) (Kd.R_base ho0) hb);have n1_:=Aside0.mk (Kd.R_elder' (rU HO_5.out) (Kd.R_base ho0) hb);have n2_:=Aside0.mk (Kd.R_lower (Kd.R_new' (Kd.R_new' ho0 (Kd.R_lt (rU HO_3.out))) (Kd.R_lt (rU HO_5.out))) (below_size (belU HB.out)));have n3_:=Aside0.mk (below_step (belU HB.out) hb);clear HO_3 HO_5 HB;have HO_3:=n0_;have HO_5:=n1_;have HO438:=n2_;have HB:=n3_;clear n0_ n1_ n2_ n3_;(try clear hb);(try clear hb2);(try clear hk);(try clear hi);(try clear ho0);obtain ⟨Ao39,co39,eo39⟩:=Kd.R_slice HO438.out;subst eo39)|((with_reducible refine gate_callee (f:=15) rfl ?_);refine goesL_ (some 69) rfl rfl Try.func15 (by kernel_rfl) rfl #[.slice Ao39 t435.length co39] rfl (by (try simp only [List.map_toArray,List.map_cons,List.map_nil]);first|done|rfl|(simp only [List.length_drop,List.length_take];rfl)) ?_;(with_reducible refine (impl_FewerAre.calls kj16 _ _ t435 true _ ?side1 ?side2 A34.out).mono ?_);(case side1 => exact cU (Kd.R_reads' HO438.out).2.2);(case side2 => exact (Kd.R_reads' HO438.out).2.1);rintro e w40 ⟨rfl,hb⟩;refine ⟨_,rfl,?_⟩;have n0_:=Aside0.mk (Kd.R_below (rU HO_3.out) hb);have n1_:=Aside0.mk (Kd.R_below (rU HO_5.out) hb);have n2_:=Aside0.mk (Kd.R_below (rU HO438.out) hb);have n3_:=Aside0.mk (below_step (belU HB.out) hb);clear HO_3 HO_5 HO438 HB;have HO_3:=n0_;have HO_5:=n1_;have HO438:=n2_;have HB:=n3_;clear n0_ n1_ n2_ n3_;(try clear hb);(try clear hb2);(try clear hk);(try clear hi))|(go_at_call 21;(with_reducible refine (impl_InsideNot.calls kj16 _ _ t422 t440 _ ?side1 ?side2 A36.out).mono ?_);(case side1 => exact cU (Kd.R_reads' HO_3.out).2.2);(case side2 => exact (Kd.R_reads' HO_3.out).2.1);rintro e w41 ⟨v441,rfl,ho0,hb⟩;have n0_:=Aside0.mk (Kd.R_elder' (rU HO_3.out) (Kd.R_base ho0) hb);have n1_:=Aside0.mk (Kd.R_elder' (rU HO_5.out) (Kd.R_base ho0) hb);have n2_:=Aside0.mk (Kd.R_elder' (rU HO438.out) (Kd.R_base ho0) hb);have n3_:=Aside0.mk (Kd.R_lower (Kd.R_new' (Kd.R_new' (Kd.R_new' ho0 (Kd.R_lt (rU HO_3.out))) (Kd.R_lt (rU HO_5.out))) (Kd.R_lt (rU HO438.out))) (below_size (belU HB.out)));have n4_:=Aside0.mk (below_step (belU HB.out) hb);clear HO_3 HO_5 HO438 HB;have HO_3:=n0_;have HO_5:=n1_;have HO438:=n2_;have HO442:=n3_;have HB:=n4_;clear n0_ n1_ n2_ n3_ n4_;(try clear hb);(try clear hb2);(try clear hk);(try clear hi);(try clear ho0);obtain ⟨Ao42,co42,eo42⟩:=Kd.R_slice HO442.out;subst eo42)|(go_at_call 15;(with_reducible refine (impl_FewerAre.calls kj16 _ _ t440 t443 _ ?side1 ?side2 A37.out).mono ?_);(case side1 => exact cU (Kd.R_reads' HO442.out).2.2);(case side2 => exact (Kd.R_reads' HO442.out).2.1);rintro e w43 ⟨rfl,hb⟩;have n0_:=Aside0.mk (Kd.R_below (rU HO_3.out) hb);have n1_:=Aside0.mk (Kd.R_below (rU HO_5.out) hb);have n2_:=Aside0.mk (Kd.R_below (rU HO438.out) hb);have n3_:=Aside0.mk (Kd.R_below (rU HO442.out) hb);have n4_:=Aside0.mk (below_step (belU HB.out) hb);clear HO_3 HO_5 HO438 HO442 HB;have HO_3:=n0_;have HO_5:=n1_;have HO438:=n2_;have HO442:=n3_;have HB:=n4_;clear n0_ n1_ n2_ n3_ n4_;(try clear hb);(try clear hb2);(try clear hk);(try clear hi)))
          go_ret
          exact ⟨by first|rfl|(simp [errW_none,errW_some] <;> rfl)|(simp [*,errW_none,errW_some] <;> rfl),belU HB.out⟩
         ·
          replace c35:=Bool.eq_false_iff.mpr c35;subst c35
          have H1 : (some false) = some r:=by rw [if_neg (show ¬ (false = true) by decide)] at H;exact H
          clear H;have H:=H1;clear H1
          obtain rfl:=Option.some.inj H
          go_wp2_with (first|((with_reducible refine gate_callee (f:=20) rfl ?_);refine goesL_ (some 65) rfl rfl Try.func20 (by kernel_rfl) rfl #[.string (⟨#[101,118,101,114,121]⟩ : ByteArray)] rfl (by (try simp only [List.map_toArray,List.map_cons,List.map_nil]);first|done|rfl|(simp only [List.length_drop,List.length_take];rfl)) ?_;(with_reducible refine (impl_NamedTriangle.calls (⟨#[101,118,101,114,121]⟩ : ByteArray) t435 t436 _ A33.out).mono ?_);rintro e w44 ⟨v437,rfl,ho0,hb⟩;refine ⟨_,rfl,?_⟩;have n0_:=Aside0.mk (Kd.R_elder' (rU HO_3.out) (Kd.R_base ho0) hb);have n1_:=Aside0.mk (Kd.R_elder' (rU HO_5.out) (Kd.R_base ho0) hb);have n2_:=Aside0.mk (Kd.R_lower (Kd.R_new' (Kd.R_new' ho0 (Kd.R_lt (rU HO_3.out))) (Kd.R_lt (rU HO_5.out))) (below_size (belU HB.out)));have n3_:=Aside0.mk (below_step (belU HB.out) hb);clear HO_3 HO_5 HB;have HO_3:=n0_;have HO_5:=n1_;have HO438:=n2_;have HB:=n3_;clear n0_ n1_ n2_ n3_;(try clear hb);(try clear hb2);(try clear hk);(try clear hi);(try clear ho0);obtain ⟨Ao45,co45,eo45⟩:=Kd.R_slice HO438.out;subst eo45)|((with_reducible refine gate_callee (f:=15) rfl ?_);refine goesL_ (some 69) rfl rfl Try.func15 (by kernel_rfl) rfl #[.slice Ao45 t435.length co45] rfl (by (try simp only [List.map_toArray,List.map_cons,List.map_nil]);first|done|rfl|(simp only [List.length_drop,List.length_take];rfl)) ?_;(with_reducible refine (impl_FewerAre.calls kj16 _ _ t435 false _ ?side1 ?side2 A34.out).mono ?_);(case side1 => exact cU (Kd.R_reads' HO438.out).2.2);(case side2 => exact (Kd.R_reads' HO438.out).2.1);rintro e w46 ⟨rfl,hb⟩;refine ⟨_,rfl,?_⟩;have n0_:=Aside0.mk (Kd.R_below (rU HO_3.out) hb);have n1_:=Aside0.mk (Kd.R_below (rU HO_5.out) hb);have n2_:=Aside0.mk (Kd.R_below (rU HO438.out) hb);have n3_:=Aside0.mk (below_step (belU HB.out) hb);clear HO_3 HO_5 HO438 HB;have HO_3:=n0_;have HO_5:=n1_;have HO438:=n2_;have HB:=n3_;clear n0_ n1_ n2_ n3_;(try clear hb);(try clear hb2);(try clear hk);(try clear hi)))
          go_ret
          exact ⟨by first|rfl|(simp [errW_none,errW_some] <;> rfl)|(simp [*,errW_none,errW_some] <;> rfl),belU HB.out⟩
   ·
    replace c11:=Bool.eq_false_iff.mpr c11;subst c11
    have H1 : (if t425 = true then (some false) else ((laws_alive.f).bind fun t428 => (some t428))) = some r:=by rw [if_neg (show ¬ (false = true) by decide)] at H;exact H
    clear H;have H:=H1;clear H1
    by_cases c47 : t425 = true
    ·
     subst c47
     have H1 : (some false) = some r:=by rw [if_pos rfl] at H;exact H
     clear H;have H:=H1;clear H1
     obtain rfl:=Option.some.inj H
     go_enter Try.func4,Try.ntmps4
     go_wp2_with (first|((with_reducible refine gate_callee (f:=14) rfl ?_);refine goesL_ (some 14) rfl rfl Try.func14 (by kernel_rfl) rfl #[.slice A0 l0.length c0] rfl (by (try simp only [List.map_toArray,List.map_cons,List.map_nil]);first|done|rfl|(simp only [List.length_drop,List.length_take];rfl)) ?_;(with_reducible refine (spec_DrawFewerAre.calls k _ _ l0 t422 _ ?side1 ?side2 A3.out).mono ?_);(case side1 => repeat (first|exact HR0.out|(with_reducible refine Kd.C_alloc ?_ _)|(with_reducible refine Kd.C_drewN ?_ _)|(with_reducible refine Kd.C_drew ?_)));(case side2 => exact HC0.out);rintro e w48 ⟨v423,rfl,ho0,hb⟩;refine ⟨_,rfl,?_⟩;have n0_:=Aside0.mk (Kd.R_lower ho0 (below_size (belU HB.out)));have n1_:=Aside0.mk (below_step (belU HB.out) hb);clear HB;have HO424:=n0_;have HB:=n1_;clear n0_ n1_;(try clear hb);(try clear hb2);(try clear hk);(try clear hi);(try clear ho0);obtain ⟨Ao49,co49,eo49⟩:=Kd.R_slice HO424.out;subst eo49)|((with_reducible refine gate_callee (f:=15) rfl ?_);refine goesL_ (some 16) rfl rfl Try.func15 (by kernel_rfl) rfl #[.slice Ao49 t422.length co49] rfl (by (try simp only [List.map_toArray,List.map_cons,List.map_nil]);first|done|rfl|(simp only [List.length_drop,List.length_take];rfl)) ?_;(with_reducible refine (impl_FewerAre.calls k _ _ t422 true _ ?side1 ?side2 A4.out).mono ?_);(case side1 => exact cU (Kd.R_reads' HO424.out).2.2);(case side2 => exact (Kd.R_reads' HO424.out).2.1);rintro e w50 ⟨rfl,hb⟩;refine ⟨_,rfl,?_⟩;have n0_:=Aside0.mk (Kd.R_below (rU HO424.out) hb);have n1_:=Aside0.mk (below_step (belU HB.out) hb);clear HO424 HB;have HO424:=n0_;have HB:=n1_;clear n0_ n1_;(try clear hb);(try clear hb2);(try clear hk);(try clear hi))|((with_reducible refine gate_callee (f:=16) rfl ?_);refine goesL_ (some 19) rfl rfl Try.func16 (by kernel_rfl) rfl #[.slice Ao49 t422.length co49] rfl (by (try simp only [List.map_toArray,List.map_cons,List.map_nil]);first|done|rfl|(simp only [List.length_drop,List.length_take];rfl)) ?_;(with_reducible refine (spec_FewerAre.calls k _ _ t422 t426 _ ?side1 ?side2 A5.out).mono ?_);(case side1 => exact cU (Kd.R_reads' HO424.out).2.2);(case side2 => exact (Kd.R_reads' HO424.out).2.1);rintro e w' ⟨rfl,⟨nd,rfl⟩⟩;refine ⟨_,rfl,?_⟩)|((with_reducible refine gate_callee (f:=17) rfl ?_);refine goesL_ (some 22) rfl rfl Try.func17 (by kernel_rfl) rfl #[.slice Ao49 t422.length co49] rfl (by (try simp only [List.map_toArray,List.map_cons,List.map_nil]);first|done|rfl|(simp only [List.length_drop,List.length_take];rfl)) ?_;(with_reducible refine (spec_TriangleOk.calls k _ _ t422 false _ ?side1 ?side2 A10.out).mono ?_);(case side1 => exact cU (Kd.R_reads' HO424.out).2.2);(case side2 => exact (Kd.R_reads' HO424.out).2.1);rintro e w' ⟨rfl,⟨nd,rfl⟩⟩;refine ⟨_,rfl,?_⟩))
     go_ret
     exact ⟨by first|rfl|(simp [errW_none,errW_some] <;> rfl)|(simp [*,errW_none,errW_some] <;> rfl),belU HB.out⟩
    ·
     replace c47:=Bool.eq_false_iff.mpr c47;subst c47
     have H1 : ((laws_alive.f).bind fun t428 => (some t428)) = some r:=by rw [if_neg (show ¬ (false = true) by decide)] at H;exact H
     clear H;have H:=H1;clear H1
     replace H:=Option.bind_eq_some_iff.mp H
     obtain ⟨t428,A510,H⟩:=H
     replace H : (some t428) = some r:=H
     have A51:=Aside0.mk A510;clear A510
     obtain rfl:=Option.some.inj H
     go_enter Try.func4,Try.ntmps4
     go_wp2_with (first|((with_reducible refine gate_callee (f:=14) rfl ?_);refine goesL_ (some 14) rfl rfl Try.func14 (by kernel_rfl) rfl #[.slice A0 l0.length c0] rfl (by (try simp only [List.map_toArray,List.map_cons,List.map_nil]);first|done|rfl|(simp only [List.length_drop,List.length_take];rfl)) ?_;(with_reducible refine (spec_DrawFewerAre.calls k _ _ l0 t422 _ ?side1 ?side2 A3.out).mono ?_);(case side1 => repeat (first|exact HR0.out|(with_reducible refine Kd.C_alloc ?_ _)|(with_reducible refine Kd.C_drewN ?_ _)|(with_reducible refine Kd.C_drew ?_)));(case side2 => exact HC0.out);rintro e w52 ⟨v423,rfl,ho0,hb⟩;refine ⟨_,rfl,?_⟩;have n0_:=Aside0.mk (Kd.R_lower ho0 (below_size (belU HB.out)));have n1_:=Aside0.mk (below_step (belU HB.out) hb);clear HB;have HO424:=n0_;have HB:=n1_;clear n0_ n1_;(try clear hb);(try clear hb2);(try clear hk);(try clear hi);(try clear ho0);obtain ⟨Ao53,co53,eo53⟩:=Kd.R_slice HO424.out;subst eo53)|((with_reducible refine gate_callee (f:=15) rfl ?_);refine goesL_ (some 16) rfl rfl Try.func15 (by kernel_rfl) rfl #[.slice Ao53 t422.length co53] rfl (by (try simp only [List.map_toArray,List.map_cons,List.map_nil]);first|done|rfl|(simp only [List.length_drop,List.length_take];rfl)) ?_;(with_reducible refine (impl_FewerAre.calls k _ _ t422 false _ ?side1 ?side2 A4.out).mono ?_);(case side1 => exact cU (Kd.R_reads' HO424.out).2.2);(case side2 => exact (Kd.R_reads' HO424.out).2.1);rintro e w54 ⟨rfl,hb⟩;refine ⟨_,rfl,?_⟩;have n0_:=Aside0.mk (Kd.R_below (rU HO424.out) hb);have n1_:=Aside0.mk (below_step (belU HB.out) hb);clear HO424 HB;have HO424:=n0_;have HB:=n1_;clear n0_ n1_;(try clear hb);(try clear hb2);(try clear hk);(try clear hi))|((with_reducible refine gate_callee (f:=16) rfl ?_);refine goesL_ (some 19) rfl rfl Try.func16 (by kernel_rfl) rfl #[.slice Ao53 t422.length co53] rfl (by (try simp only [List.map_toArray,List.map_cons,List.map_nil]);first|done|rfl|(simp only [List.length_drop,List.length_take];rfl)) ?_;(with_reducible refine (spec_FewerAre.calls k _ _ t422 t426 _ ?side1 ?side2 A5.out).mono ?_);(case side1 => exact cU (Kd.R_reads' HO424.out).2.2);(case side2 => exact (Kd.R_reads' HO424.out).2.1);rintro e w' ⟨rfl,⟨nd,rfl⟩⟩;refine ⟨_,rfl,?_⟩)|((with_reducible refine gate_callee (f:=17) rfl ?_);refine goesL_ (some 22) rfl rfl Try.func17 (by kernel_rfl) rfl #[.slice Ao53 t422.length co53] rfl (by (try simp only [List.map_toArray,List.map_cons,List.map_nil]);first|done|rfl|(simp only [List.length_drop,List.length_take];rfl)) ?_;(with_reducible refine (spec_TriangleOk.calls k _ _ t422 false _ ?side1 ?side2 A10.out).mono ?_);(case side1 => exact cU (Kd.R_reads' HO424.out).2.2);(case side2 => exact (Kd.R_reads' HO424.out).2.1);rintro e w' ⟨rfl,⟨nd,rfl⟩⟩;refine ⟨_,rfl,?_⟩)|(go_at_call 10;(with_reducible refine (laws_alive.calls  t428 _ A51.out).mono ?_);rintro e w' ⟨rfl,⟨nd,rfl⟩⟩))
     go_ret
     exact ⟨by first|rfl|(simp [errW_none,errW_some] <;> rfl)|(simp [*,errW_none,errW_some] <;> rfl),belU HB.out⟩

/-- THE ONE PURE STATEMENT of laws_FnFewerAre: yours. -/
def laws_FnFewerAre.Pure : Prop:=∀ (l0 : List Int),l0.length ≤ maxLen → l0.length * 1 ≤ 140737488351232 → (∀ x ∈ l0,(Lit.int .u8 x).wf = true) → ∃ k,laws_FnFewerAre.f k l0 = some true
end Go.Proofs.Ytmeamfkjfpaciaa.PA
