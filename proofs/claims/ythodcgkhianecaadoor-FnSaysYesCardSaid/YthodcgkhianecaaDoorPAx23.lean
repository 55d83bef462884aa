/- The machine side of functions of this seat, written by the session's program myprint.py: for each Go function a Lean function and the proof that the call answers just it. -/
import Derived.Test.YthodcgkhianecaaDoorPAx0
import Derived.Test.YthodcgkhianecaaDoorUp
import Derived.Test.YthodcgkhianecaaDoorPAx11
import Derived.Test.YthodcgkhianecaaDoorPAx15
import Derived.Test.YthodcgkhianecaaDoorPAx17
import Derived.Test.YthodcgkhianecaaDoorPAx21
import Derived.Test.YthodcgkhianecaaDoorPAx22
namespace Go.Proofs.YthodcgkhianecaaDoor.PA
open Go.RowKit Go.Proofs.YthodcgkhianecaaDoorW.PrintWords Go.Proofs.YthodcgkhianecaaDoorW.PrintLast Go.Proofs.YthodcgkhianecaaDoorW.PrintMore
attribute [local go_sem] max2_int min2_int max_two min_two max_three min_three max_four min_four   -- for this text's walks alone
set_option linter.unusedVariables false
set_option linter.unusedSimpArgs false

/-! ### laws_FnSaysYes: function 3 -/
mutual
def laws_FnSaysYes.l0 : Nat → ByteArray → Bool → Int → Int → List Int → List Int → List Int → Option (Bool)
 | 0,_,_,_,_,_,_,_ => none
 | k + 1,x4,x5,x6,x7,x415000,x415001,x415002 => if x7 < (x4.size : Int) then (if 0 ≤ x7 then (if (bt x4 x7) = 49 then (laws_FnSaysYes.j1 k x4 x5 (wrap64 (x6 + 1)) x7 x415000 x415001 x415002) else (laws_FnSaysYes.j1 k x4 x5 x6 x7 x415000 x415001 x415002)) else (none)) else ((impl_TriangleOf.f k x415000 x415001 x415002).bind fun t419 => ((impl_PlaceOf.f (x4.size : Int) x6).bind fun t422 => (if t422 < 0 then (some true) else (if t422 < (t419.length : Int) then (if 0 ≤ t422 then (some (x5 == ((rd t419 t422) == 1))) else (none)) else (some false)))))
def laws_FnSaysYes.j1 : Nat → ByteArray → Bool → Int → Int → List Int → List Int → List Int → Option (Bool)
 | 0,_,_,_,_,_,_,_ => none
 | k + 1,x4,x5,x6,x7,x415000,x415001,x415002 => if 0 ≤ x7 then (if x7 < (x4.size : Int) then (if (bt x4 x7) = 48 then (laws_FnSaysYes.j2 k x4 x5 x6 x7 false x415000 x415001 x415002) else (laws_FnSaysYes.j2 k x4 x5 x6 x7 ((bt x4 x7) != 49) x415000 x415001 x415002)) else (none)) else (none)
def laws_FnSaysYes.j2 : Nat → ByteArray → Bool → Int → Int → Bool → List Int → List Int → List Int → Option (Bool)
 | 0,_,_,_,_,_,_,_,_ => none
 | k + 1,x4,x5,x6,x7,x51,x415000,x415001,x415002 => if x51 = true then (some (!x5)) else (if x7 > 0 then (if 0 ≤ (wrap64 (x7 - 1)) then (if (wrap64 (x7 - 1)) ≤ (x4.size : Int) then (if 0 ≤ x7 then (if x7 ≤ (wrap64 (x7 + 1)) then (if (wrap64 (x7 + 1)) ≤ (x4.size : Int) then (if (x4.extract 0 ((wrap64 (x7 - 1)) : Int).toNat).size + (x4.extract (x7 : Int).toNat ((wrap64 (x7 + 1)) : Int).toNat).size ≤ 9223372036854775807 then (if (wrap64 (x7 - 1)) ≤ x7 then (if x7 ≤ (x4.size : Int) then (if ((x4.extract 0 ((wrap64 (x7 - 1)) : Int).toNat) ++ (x4.extract (x7 : Int).toNat ((wrap64 (x7 + 1)) : Int).toNat)).size + (x4.extract ((wrap64 (x7 - 1)) : Int).toNat (x7 : Int).toNat).size ≤ 9223372036854775807 then (if 0 ≤ (wrap64 (x7 + 1)) then (if (((x4.extract 0 ((wrap64 (x7 - 1)) : Int).toNat) ++ (x4.extract (x7 : Int).toNat ((wrap64 (x7 + 1)) : Int).toNat)) ++ (x4.extract ((wrap64 (x7 - 1)) : Int).toNat (x7 : Int).toNat)).size + (x4.extract ((wrap64 (x7 + 1)) : Int).toNat x4.size).size ≤ 9223372036854775807 then ((impl_SaysYes.f k x415000 x415001 x415002 ((((x4.extract 0 ((wrap64 (x7 - 1)) : Int).toNat) ++ (x4.extract (x7 : Int).toNat ((wrap64 (x7 + 1)) : Int).toNat)) ++ (x4.extract ((wrap64 (x7 - 1)) : Int).toNat (x7 : Int).toNat)) ++ (x4.extract ((wrap64 (x7 + 1)) : Int).toNat x4.size))).bind fun t424 => (if (t424 != x5) = true then (some false) else (laws_FnSaysYes.l0 k x4 x5 x6 (wrap64 (x7 + 1)) x415000 x415001 x415002))) else (none)) else (none)) else (none)) else (none)) else (none)) else (none)) else (none)) else (none)) else (none)) else (none)) else (none)) else (laws_FnSaysYes.l0 k x4 x5 x6 (wrap64 (x7 + 1)) x415000 x415001 x415002))
end
def laws_FnSaysYes.f (k : Nat) (l0 : List Int) : Option (Bool):=if (l0.length : Int) > 1048576 then (some true) else ((spec_DrawSaysYes.f k l0).bind fun bt404 => ((impl_SaysYes.f k bt404.1 bt404.2.1 bt404.2.2.1 bt404.2.2.2).bind fun t415 => ((spec_SaysYes.f k bt404.1 bt404.2.1 bt404.2.2.1 bt404.2.2.2).bind fun t416 => (if (t415 != t416) = true then (some false) else ((impl_AnyOrder.f k bt404.1 bt404.2.1 bt404.2.2.1).bind fun t417 => (if t417 = true then (laws_FnSaysYes.l0 k bt404.2.2.2 t415 0 0 bt404.1 bt404.2.1 bt404.2.2.1) else ((laws_alive.f).bind fun t418 => (some t418))))))))
theorem laws_FnSaysYes.mono_l : ∀ k,(∀ y0 y1 y2 y3 y4 y5 y6,LeO (laws_FnSaysYes.l0 k y0 y1 y2 y3 y4 y5 y6) (laws_FnSaysYes.l0 (k + 1) y0 y1 y2 y3 y4 y5 y6)) ∧ (∀ y0 y1 y2 y3 y4 y5 y6,LeO (laws_FnSaysYes.j1 k y0 y1 y2 y3 y4 y5 y6) (laws_FnSaysYes.j1 (k + 1) y0 y1 y2 y3 y4 y5 y6)) ∧ (∀ y0 y1 y2 y3 y4 y5 y6 y7,LeO (laws_FnSaysYes.j2 k y0 y1 y2 y3 y4 y5 y6 y7) (laws_FnSaysYes.j2 (k + 1) y0 y1 y2 y3 y4 y5 y6 y7))
 | 0 => ⟨fun _ _ _ _ _ _ _ r h => by simp [laws_FnSaysYes.l0] at h,fun _ _ _ _ _ _ _ r h => by simp [laws_FnSaysYes.j1] at h,fun _ _ _ _ _ _ _ _ r h => by simp [laws_FnSaysYes.j2] at h⟩
 | k + 1 => by
  obtain ⟨ih0,ih1,ih2⟩:=laws_FnSaysYes.mono_l k
  refine ⟨?_,?_,?_⟩
  ·
   intro y0 y1 y2 y3 y4 y5 y6
   unfold laws_FnSaysYes.l0
   repeat' first
   | (with_reducible exact ih0 _ _ _ _ _ _ _)
   | (with_reducible exact ih1 _ _ _ _ _ _ _)
   | (with_reducible exact ih2 _ _ _ _ _ _ _ _)
   | (with_reducible exact impl_AnyOrder.mono _ _ _ _)
   | (with_reducible exact impl_SaysYes.mono _ _ _ _ _)
   | (with_reducible exact impl_TriangleOf.mono _ _ _ _)
   | (with_reducible exact spec_DrawSaysYes.mono _ _)
   | (with_reducible exact spec_SaysYes.mono _ _ _ _ _)
   | (with_reducible exact LeO.refl _)
   | (with_reducible exact LeO.none _)
   | (with_reducible refine LeO.ite ?_ ?_)
   | (with_reducible refine LeO.bind ?_ (fun _ => ?_))
   | exact ih0 _ _ _ _ _ _ _
   | exact ih1 _ _ _ _ _ _ _
   | exact ih2 _ _ _ _ _ _ _ _
   | exact impl_AnyOrder.mono _ _ _ _
   | exact impl_SaysYes.mono _ _ _ _ _
   | exact impl_TriangleOf.mono _ _ _ _
   | exact spec_DrawSaysYes.mono _ _
   | exact spec_SaysYes.mono _ _ _ _ _
   | exact LeO.none _
   | refine LeO.ite ?_ ?_
   | refine LeO.bind ?_ (fun _ => ?_)
  ·
   intro y0 y1 y2 y3 y4 y5 y6
   unfold laws_FnSaysYes.j1
   repeat' first
   | (with_reducible exact ih0 _ _ _ _ _ _ _)
   | (with_reducible exact ih1 _ _ _ _ _ _ _)
   | (with_reducible exact ih2 _ _ _ _ _ _ _ _)
   | (with_reducible exact impl_AnyOrder.mono _ _ _ _)
   | (with_reducible exact impl_SaysYes.mono _ _ _ _ _)
   | (with_reducible exact impl_TriangleOf.mono _ _ _ _)
   | (with_reducible exact spec_DrawSaysYes.mono _ _)
   | (with_reducible exact spec_SaysYes.mono _ _ _ _ _)
   | (with_reducible exact LeO.refl _)
   | (with_reducible exact LeO.none _)
   | (with_reducible refine LeO.ite ?_ ?_)
   | (with_reducible refine LeO.bind ?_ (fun _ => ?_))
   | exact ih0 _ _ _ _ _ _ _
   | exact ih1 _ _ _ _ _ _ _
   | exact ih2 _ _ _ _ _ _ _ _
   | exact impl_AnyOrder.mono _ _ _ _
   | exact impl_SaysYes.mono _ _ _ _ _
   | exact impl_TriangleOf.mono _ _ _ _
   | exact spec_DrawSaysYes.mono _ _
   | exact spec_SaysYes.mono _ _ _ _ _
   | exact LeO.none _
   | refine LeO.ite ?_ ?_
   | refine LeO.bind ?_ (fun _ => ?_)
  ·
   intro y0 y1 y2 y3 y4 y5 y6 y7
   unfold laws_FnSaysYes.j2
   repeat' first
   | (with_reducible exact ih0 _ _ _ _ _ _ _)
   | (with_reducible exact ih1 _ _ _ _ _ _ _)
   | (with_reducible exact ih2 _ _ _ _ _ _ _ _)
   | (with_reducible exact impl_AnyOrder.mono _ _ _ _)
   | (with_reducible exact impl_SaysYes.mono _ _ _ _ _)
   | (with_reducible exact impl_TriangleOf.mono _ _ _ _)
   | (with_reducible exact spec_DrawSaysYes.mono _ _)
   | (with_reducible exact spec_SaysYes.mono _ _ _ _ _)
   | (with_reducible exact LeO.refl _)
   | (with_reducible exact LeO.none _)
   | (with_reducible refine LeO.ite ?_ ?_)
   | (with_reducible refine LeO.bind ?_ (fun _ => ?_))
   | exact ih0 _ _ _ _ _ _ _
   | exact ih1 _ _ _ _ _ _ _
   | exact ih2 _ _ _ _ _ _ _ _
   | exact impl_AnyOrder.mono _ _ _ _
   | exact impl_SaysYes.mono _ _ _ _ _
   | exact impl_TriangleOf.mono _ _ _ _
   | exact spec_DrawSaysYes.mono _ _
   | exact spec_SaysYes.mono _ _ _ _ _
   | exact LeO.none _
   | refine LeO.ite ?_ ?_
   | refine LeO.bind ?_ (fun _ => ?_)
theorem laws_FnSaysYes.mono : ∀ a0 k,LeO (laws_FnSaysYes.f k a0) (laws_FnSaysYes.f (k + 1) a0):=by
 intro a0 k
 obtain ⟨ih0,ih1,ih2⟩:=laws_FnSaysYes.mono_l k
 unfold laws_FnSaysYes.f
 repeat' first
   | (with_reducible exact ih0 _ _ _ _ _ _ _)
   | (with_reducible exact ih1 _ _ _ _ _ _ _)
   | (with_reducible exact ih2 _ _ _ _ _ _ _ _)
   | (with_reducible exact impl_AnyOrder.mono _ _ _ _)
   | (with_reducible exact impl_SaysYes.mono _ _ _ _ _)
   | (with_reducible exact impl_TriangleOf.mono _ _ _ _)
   | (with_reducible exact spec_DrawSaysYes.mono _ _)
   | (with_reducible exact spec_SaysYes.mono _ _ _ _ _)
   | (with_reducible exact LeO.refl _)
   | (with_reducible exact LeO.none _)
   | (with_reducible refine LeO.ite ?_ ?_)
   | (with_reducible refine LeO.bind ?_ (fun _ => ?_))
   | exact ih0 _ _ _ _ _ _ _
   | exact ih1 _ _ _ _ _ _ _
   | exact ih2 _ _ _ _ _ _ _ _
   | exact impl_AnyOrder.mono _ _ _ _
   | exact impl_SaysYes.mono _ _ _ _ _
   | exact impl_TriangleOf.mono _ _ _ _
   | exact spec_DrawSaysYes.mono _ _
   | exact spec_SaysYes.mono _ _ _ _ _
   | exact LeO.none _
   | refine LeO.ite ?_ ?_
   | refine LeO.bind ?_ (fun _ => ?_)
def laws_FnSaysYes.T17 : Bool × List (List Nat × List Nat):=(true,[([],[]),([0],[0]),([1],[1]),([2],[2]),([2],[2]),([2],[2]),([5,2],[2,5]),([4,6,2],[2,4,6]),([2],[2]),([2],[2]),([2],[2]),([10,2],[2,10]),([8,9,11,2],[2,8,9,11]),([7,12,2],[2,7,12]),([2],[2]),([2],[2]),([15,2],[2,15]),([2],[2]),([14,16,17,2],[2,14,16,17]),([13,18,2],[2,13,18]),([2],[2]),([2],[2]),([21,2],[2,21]),([20,22,2],[2,20,22]),([19,23,2],[2,19,23]),([3,24,2,2],[2,3,24]),([2],[2]),([25,26,2],[2,25,26]),([2,27],[2,27])])
def laws_FnSaysYes.B17 : List Nat:=[0,1,3,7,7,7,39,119,7,7,7,1031,3847,8183,7,7,32775,7,245767,524279,7,7,2097159,7340039,16777207,33554431,7,134217727,268435455]
theorem laws_FnSaysYes.tab17 : rtab .any (opsOf Tryd.f3 17) = laws_FnSaysYes.T17:=by kernel_rfl
theorem laws_FnSaysYes.bits17 : waitsOk laws_FnSaysYes.T17.2 laws_FnSaysYes.B17 = true:=by kernel_rfl
set_option maxHeartbeats 8000000 in
set_option maxRecDepth 100000 in
theorem laws_FnSaysYes.calls (k : Nat) (A0 : Option Addr) (c0 : Nat) (l0 : List Int) (r : Bool) (w : World) (hr0 : Kd.C (Kd.int .u8) w A0 l0.length l0) (hc0 : l0.length ≤ c0) (h : laws_FnSaysYes.f k l0 = some r) :
  Calls Tryd.prog 3 #[.slice A0 l0.length c0] w fun e w' => e = .returned (.bool r) ∧ Below w.heap.size w w':=by
 have hu25:=Tryd.underlying25
 have HR0:=Aside0.mk hr0
 have HC0:=Aside0.mk hc0;clear hr0 hc0;have HB:=Aside0.mk (Below.refl w.heap.size w)
 have H : (if (l0.length : Int) > 1048576 then (some true) else ((spec_DrawSaysYes.f k l0).bind fun bt404 => ((impl_SaysYes.f k bt404.1 bt404.2.1 bt404.2.2.1 bt404.2.2.2).bind fun t415 => ((spec_SaysYes.f k bt404.1 bt404.2.1 bt404.2.2.1 bt404.2.2.2).bind fun t416 => (if (t415 != t416) = true then (some false) else ((impl_AnyOrder.f k bt404.1 bt404.2.1 bt404.2.2.1).bind fun t417 => (if t417 = true then (laws_FnSaysYes.l0 k bt404.2.2.2 t415 0 0 bt404.1 bt404.2.1 bt404.2.2.1) else ((laws_alive.f).bind fun t418 => (some t418))))))))) = some r:=h;clear h
 by_cases c2 : (l0.length : Int) > 1048576
 ·
  rw [if_pos c2] at H
  have c2b0 : decide (1048576 < (l0.length : Int)) = true:=decide_eq_true c2
  have c2b1 : decide (1048576 < l0.length) = true:=decide_eq_true (by omega);clear c2
  obtain rfl:=Option.some.inj H
  go_enter Tryd.func3,Tryd.ntmps3
  go_wp2
  go_ret
  exact ⟨by first|rfl|(simp [errW_none,errW_some] <;> rfl)|(simp [*,errW_none,errW_some] <;> rfl),belU HB.out⟩
 ·
  rw [if_neg c2] at H
  have c2b0 : decide (1048576 < (l0.length : Int)) = false:=decide_eq_false c2
  have c2b1 : decide (1048576 < l0.length) = false:=decide_eq_false (by omega);clear c2
  replace H:=Option.bind_eq_some_iff.mp H
  obtain ⟨⟨t404,t407,t410,t413⟩,A30,H⟩:=H
  replace H : ((impl_SaysYes.f k t404 t407 t410 t413).bind fun t415 => ((spec_SaysYes.f k t404 t407 t410 t413).bind fun t416 => (if (t415 != t416) = true then (some false) else ((impl_AnyOrder.f k t404 t407 t410).bind fun t417 => (if t417 = true then (laws_FnSaysYes.l0 k t413 t415 0 0 t404 t407 t410) else ((laws_alive.f).bind fun t418 => (some t418))))))) = some r:=H
  have A3:=Aside0.mk A30;clear A30
  replace H:=Option.bind_eq_some_iff.mp H
  obtain ⟨t415,A40,H⟩:=H
  replace H : ((spec_SaysYes.f k t404 t407 t410 t413).bind fun t416 => (if (t415 != t416) = true then (some false) else ((impl_AnyOrder.f k t404 t407 t410).bind fun t417 => (if t417 = true then (laws_FnSaysYes.l0 k t413 t415 0 0 t404 t407 t410) else ((laws_alive.f).bind fun t418 => (some t418)))))) = some r:=H
  have A4:=Aside0.mk A40;clear A40
  replace H:=Option.bind_eq_some_iff.mp H
  obtain ⟨t416,A50,H⟩:=H
  replace H : (if (t415 != t416) = true then (some false) else ((impl_AnyOrder.f k t404 t407 t410).bind fun t417 => (if t417 = true then (laws_FnSaysYes.l0 k t413 t415 0 0 t404 t407 t410) else ((laws_alive.f).bind fun t418 => (some t418))))) = some r:=H
  have A5:=Aside0.mk A50;clear A50
  by_cases c6 : (t415 != t416) = true
  ·
   rw [if_pos c6] at H
   have c6b0 : (t415 != t416) = true:=c6
   (try (have c6b1 : decide (t415 = t416) = false:=by simpa using c6))
   (try (have c6b2 : (t415 == t416) = false:=by simpa using c6))
   (try (have c6b3 : ¬ (t415 = t416):=by simpa using c6));clear c6
   obtain rfl:=Option.some.inj H
   go_enter Tryd.func3,Tryd.ntmps3
   go_wp2_with (first|((with_reducible refine gate_callee (f:=5) rfl ?_);refine goesL_ (some 15) rfl rfl Tryd.func5 (by kernel_rfl) rfl #[.slice A0 l0.length c0] rfl (by (try simp only [List.map_toArray,List.map_cons,List.map_nil]);first|done|rfl|(simp only [List.length_drop,List.length_take];rfl)) ?_;(with_reducible refine (spec_DrawSaysYes.calls k _ _ l0 t404 t407 t410 t413 _ ?side1 ?side2 A3.out).mono ?_);(case side1 => repeat (first|exact HR0.out|(with_reducible refine Kd.C_alloc ?_ _)|(with_reducible refine Kd.C_drewN ?_ _)|(with_reducible refine Kd.C_drew ?_)));(case side2 => exact HC0.out);rintro e w7 ⟨v405,v408,v411,rfl,ho0,ho1,ho2,hb⟩;refine ⟨_,rfl,?_⟩;have n0_:=Aside0.mk (Kd.R_lower ho0 (below_size (belU HB.out)));have n1_:=Aside0.mk (Kd.R_lower ho1 (below_size (belU HB.out)));have n2_:=Aside0.mk (Kd.R_lower ho2 (below_size (belU HB.out)));have n3_:=Aside0.mk (below_step (belU HB.out) hb);clear HB;have HO406:=n0_;have HO409:=n1_;have HO412:=n2_;have HB:=n3_;clear n0_ n1_ n2_ n3_;(try clear hb);(try clear hb2);(try clear hk);(try clear hi);(try clear ho0);(try clear ho1);(try clear ho2))|((with_reducible refine gate_dst (N:=3) rfl ?_);(try (refine gate_guard (by rfl) ?_;dsimp only));refine box_event ?hg (N:=3) ?hd (cs:=#[.slice none 0 0,.slice none 0 0,.slice none 0 0]) (t:=25) ?hr ?_;(case hd => rfl);(case hg => rfl);(case hr => first|(go_simp;done)|(go_simp;rfl));intro gb414 hg w8 hbox hb;have n0_:=Aside0.mk (Kd.R_below (rU HO406.out) hb);have n1_:=Aside0.mk (Kd.R_below (rU HO409.out) hb);have n2_:=Aside0.mk (Kd.R_below (rU HO412.out) hb);have n3_:=Aside0.mk (below_step (belU HB.out) hb);have n4_:=Aside0.mk (hbox);have n5_:=Aside0.mk ((by rw [hg];exact (below_size (belU HB.out)) : w.heap.size ≤ gb414));have n6_:=Aside0.mk ((by rw [hg];exact (below_size (belU HB.out)) : w.heap.size ≤ gb414));clear HO406 HO409 HO412 HB;have HO406:=n0_;have HO409:=n1_;have HO412:=n2_;have HB:=n3_;have BK414:=n4_;have GW414:=n5_;have GE414:=n6_;clear n0_ n1_ n2_ n3_ n4_ n5_ n6_ hb hbox hg;obtain ⟨Ao9,co9,eo9⟩:=Kd.R_slice HO406.out;subst eo9;have hcz10_0 : w8.cell? ⟨gb414,0,none⟩ = some (.slice none 0 0):=(blk_cell BK414.out 0).trans rfl;have hcz10_1 : w8.cell? ⟨gb414,1,none⟩ = some (.slice none 0 0):=(blk_cell BK414.out 1).trans rfl;have hcz10_2 : w8.cell? ⟨gb414,2,none⟩ = some (.slice none 0 0):=(blk_cell BK414.out 2).trans rfl;have hfz10_0:=blk_frozen BK414.out 0;have hfz10_1:=blk_frozen BK414.out 1;have hfz10_2:=blk_frozen BK414.out 2;obtain ⟨Ao11,co11,eo11⟩:=Kd.R_slice HO409.out;subst eo11;obtain ⟨Ao12,co12,eo12⟩:=Kd.R_slice HO412.out;subst eo12)|((with_reducible refine gate_callee (f:=6) rfl ?_);refine goesL_ (some 20) rfl rfl Tryd.func6 (by kernel_rfl) rfl #[.agg #[.slice Ao9 t404.length co9,.slice Ao11 t407.length co11,.slice Ao12 t410.length co12],.string t413] rfl (by (try simp only [List.map_toArray,List.map_cons,List.map_nil]);first|done|rfl|(simp only [List.length_drop,List.length_take];rfl)) ?_;(with_reducible refine (impl_SaysYes.calls k _ _ t404 _ _ t407 _ _ t410 t413 t415 _ ?side1 ?side2 ?side3 ?side4 ?side5 ?side6 A4.out).mono ?_);(case side1 => refine (Kd.R_reads' (e:=3) (base:=w.heap.size) (ok:=fun k_ => (some k_ ≠ (.slice Ao11 t407.length co11 : Value).ownBlock ∧ some k_ ≠ (.slice Ao12 t410.length co12 : Value).ownBlock)) (n:=t404.length) (c:=co9) ?_).2.2;exact (by (with_reducible repeat (first|apply Kd.R_alloc|apply Kd.R_drewN|apply Kd.R_drew));exact (Kd.R_mono (Kd.R_far (p:=⟨gb414,2,none⟩) (Kd.R_far (p:=⟨gb414,1,none⟩) (Kd.R_far (p:=⟨gb414,0,none⟩) (Kd.R_types HO406.out BK414.out (by decide)) (fun _ hk => hk.2) (.slice Ao9 t404.length co9)) (fun _ hk => hk.2) (.slice Ao11 t407.length co11)) (fun _ hk => hk.2) (.slice Ao12 t410.length co12)) (fun _ h_ => h_.1))));(case side2 => exact (Kd.R_reads' HO406.out).2.1);(case side3 => refine (Kd.R_reads' (e:=3) (base:=w.heap.size) (ok:=fun k_ => (some k_ ≠ (.slice Ao9 t404.length co9 : Value).ownBlock ∧ some k_ ≠ (.slice Ao12 t410.length co12 : Value).ownBlock)) (n:=t407.length) (c:=co11) ?_).2.2;exact (by (with_reducible repeat (first|apply Kd.R_alloc|apply Kd.R_drewN|apply Kd.R_drew));exact (Kd.R_mono (Kd.R_far (p:=⟨gb414,2,none⟩) (Kd.R_far (p:=⟨gb414,1,none⟩) (Kd.R_far (p:=⟨gb414,0,none⟩) (Kd.R_types HO409.out BK414.out (by decide)) (fun _ hk => hk.2) (.slice Ao9 t404.length co9)) (fun _ hk => hk.2) (.slice Ao11 t407.length co11)) (fun _ hk => hk.2) (.slice Ao12 t410.length co12)) (fun _ h_ => h_.1))));(case side4 => exact (Kd.R_reads' HO409.out).2.1);(case side5 => refine (Kd.R_reads' (e:=3) (base:=w.heap.size) (ok:=fun k_ => (some k_ ≠ (.slice Ao9 t404.length co9 : Value).ownBlock ∧ some k_ ≠ (.slice Ao11 t407.length co11 : Value).ownBlock)) (n:=t410.length) (c:=co12) ?_).2.2;exact (by (with_reducible repeat (first|apply Kd.R_alloc|apply Kd.R_drewN|apply Kd.R_drew));exact (Kd.R_mono (Kd.R_far (p:=⟨gb414,2,none⟩) (Kd.R_far (p:=⟨gb414,1,none⟩) (Kd.R_far (p:=⟨gb414,0,none⟩) (Kd.R_types HO412.out BK414.out (by decide)) (fun _ hk => hk.2) (.slice Ao9 t404.length co9)) (fun _ hk => hk.2) (.slice Ao11 t407.length co11)) (fun _ hk => hk.2) (.slice Ao12 t410.length co12)) (fun _ h_ => h_.1))));(case side6 => exact (Kd.R_reads' HO412.out).2.1);rintro e w13 ⟨rfl,hb⟩;refine ⟨_,rfl,?_⟩;have n0_:=Aside0.mk (Kd.R_below (by (with_reducible repeat (first|apply Kd.R_alloc|apply Kd.R_drewN|apply Kd.R_drew));exact (Kd.R_mono (Kd.R_far (p:=⟨gb414,2,none⟩) (Kd.R_far (p:=⟨gb414,1,none⟩) (Kd.R_far (p:=⟨gb414,0,none⟩) (Kd.R_types HO406.out BK414.out (by decide)) (fun _ hk => hk.2) (.slice Ao9 t404.length co9)) (fun _ hk => hk.2) (.slice Ao11 t407.length co11)) (fun _ hk => hk.2) (.slice Ao12 t410.length co12)) (fun _ h_ => h_.1))) hb);have n1_:=Aside0.mk (Kd.R_below (by (with_reducible repeat (first|apply Kd.R_alloc|apply Kd.R_drewN|apply Kd.R_drew));exact (Kd.R_mono (Kd.R_far (p:=⟨gb414,2,none⟩) (Kd.R_far (p:=⟨gb414,1,none⟩) (Kd.R_far (p:=⟨gb414,0,none⟩) (Kd.R_types HO409.out BK414.out (by decide)) (fun _ hk => hk.2) (.slice Ao9 t404.length co9)) (fun _ hk => hk.2) (.slice Ao11 t407.length co11)) (fun _ hk => hk.2) (.slice Ao12 t410.length co12)) (fun _ h_ => h_.1))) hb);have n2_:=Aside0.mk (Kd.R_below (by (with_reducible repeat (first|apply Kd.R_alloc|apply Kd.R_drewN|apply Kd.R_drew));exact (Kd.R_mono (Kd.R_far (p:=⟨gb414,2,none⟩) (Kd.R_far (p:=⟨gb414,1,none⟩) (Kd.R_far (p:=⟨gb414,0,none⟩) (Kd.R_types HO412.out BK414.out (by decide)) (fun _ hk => hk.2) (.slice Ao9 t404.length co9)) (fun _ hk => hk.2) (.slice Ao11 t407.length co11)) (fun _ hk => hk.2) (.slice Ao12 t410.length co12)) (fun _ h_ => h_.1))) hb);have n3_:=Aside0.mk (blk_below (g:=gb414) (o:=.cells #[.slice Ao9 t404.length co9,.slice Ao11 t407.length co11,.slice Ao12 t410.length co12] 25 (0,0)) (by (with_reducible repeat (first|refine blk_drewN ?_ _|refine blk_drew ?_|refine blk_alloc ?_ _));refine blk_put (cs:=#[.slice Ao9 t404.length co9,.slice Ao11 t407.length co11,.slice none 0 0]) ?_ 2 _ rfl;(with_reducible repeat (first|refine blk_drewN ?_ _|refine blk_drew ?_|refine blk_alloc ?_ _));refine blk_put (cs:=#[.slice Ao9 t404.length co9,.slice none 0 0,.slice none 0 0]) ?_ 1 _ rfl;(with_reducible repeat (first|refine blk_drewN ?_ _|refine blk_drew ?_|refine blk_alloc ?_ _));refine blk_put (cs:=#[.slice none 0 0,.slice none 0 0,.slice none 0 0]) ?_ 0 _ rfl;(with_reducible repeat (first|refine blk_drewN ?_ _|refine blk_drew ?_|refine blk_alloc ?_ _));exact BK414.out) hb);have n4_:=Aside0.mk (below_step (by repeat (first|(with_reducible first|exact HB.out|apply below_alloc|apply pw_below_drewN|apply below_drew1|refine below_set ?_ GE414.out)|exact HB.out)) hb);clear HO406 HO409 HO412 BK414 HB;have HO406:=n0_;have HO409:=n1_;have HO412:=n2_;have BK414:=n3_;have HB:=n4_;clear n0_ n1_ n2_ n3_ n4_;(try clear hb);(try clear hb2);(try clear hk);(try clear hi);have hcz14_0 : w13.cell? ⟨gb414,0,none⟩ = some (.slice Ao9 t404.length co9):=(blk_cell BK414.out 0).trans rfl;have hcz14_1 : w13.cell? ⟨gb414,1,none⟩ = some (.slice Ao11 t407.length co11):=(blk_cell BK414.out 1).trans rfl;have hcz14_2 : w13.cell? ⟨gb414,2,none⟩ = some (.slice Ao12 t410.length co12):=(blk_cell BK414.out 2).trans rfl;have hfz14_0:=blk_frozen BK414.out 0;have hfz14_1:=blk_frozen BK414.out 1;have hfz14_2:=blk_frozen BK414.out 2)|((with_reducible refine gate_callee (f:=7) rfl ?_);refine goesL_ (some 24) rfl rfl Tryd.func7 (by kernel_rfl) rfl #[.agg #[.slice Ao9 t404.length co9,.slice Ao11 t407.length co11,.slice Ao12 t410.length co12],.string t413] rfl (by (try simp only [List.map_toArray,List.map_cons,List.map_nil]);first|done|rfl|(simp only [List.length_drop,List.length_take];rfl)) ?_;(with_reducible refine (spec_SaysYes.calls k _ _ t404 _ _ t407 _ _ t410 t413 t416 _ ?side1 ?side2 ?side3 ?side4 ?side5 ?side6 A5.out).mono ?_);(case side1 => exact cU (Kd.R_reads' HO406.out).2.2);(case side2 => exact (Kd.R_reads' HO406.out).2.1);(case side3 => exact cU (Kd.R_reads' HO409.out).2.2);(case side4 => exact (Kd.R_reads' HO409.out).2.1);(case side5 => exact cU (Kd.R_reads' HO412.out).2.2);(case side6 => exact (Kd.R_reads' HO412.out).2.1);rintro e w15 ⟨rfl,hb⟩;refine ⟨_,rfl,?_⟩;have n0_:=Aside0.mk (Kd.R_below (rU HO406.out) hb);have n1_:=Aside0.mk (Kd.R_below (rU HO409.out) hb);have n2_:=Aside0.mk (Kd.R_below (rU HO412.out) hb);have n3_:=Aside0.mk (blk_below (g:=gb414) (o:=.cells #[.slice Ao9 t404.length co9,.slice Ao11 t407.length co11,.slice Ao12 t410.length co12] 25 (0,0)) (blkU BK414.out) hb);have n4_:=Aside0.mk (below_step (by repeat (first|(with_reducible first|exact HB.out|apply below_alloc|apply pw_below_drewN|apply below_drew1|refine below_set ?_ GE414.out)|exact HB.out)) hb);clear HO406 HO409 HO412 BK414 HB;have HO406:=n0_;have HO409:=n1_;have HO412:=n2_;have BK414:=n3_;have HB:=n4_;clear n0_ n1_ n2_ n3_ n4_;(try clear hb);(try clear hb2);(try clear hk);(try clear hi)))
   go_ret
   exact ⟨by first|rfl|(simp [errW_none,errW_some] <;> rfl)|(simp [*,errW_none,errW_some] <;> rfl),by repeat (first|(with_reducible first|exact HB.out|apply below_alloc|apply pw_below_drewN|apply below_drew1|refine below_set ?_ GE414.out)|exact HB.out)⟩
  ·
   rw [if_neg c6] at H
   have c6b0 : (t415 != t416) = false:=by simpa using c6
   (try (have c6b1 : decide (t415 = t416) = true:=by simpa using c6))
   (try (have c6b2 : (t415 == t416) = true:=by simpa using c6));clear c6
   replace H:=Option.bind_eq_some_iff.mp H
   obtain ⟨t417,A160,H⟩:=H
   replace H : (if t417 = true then (laws_FnSaysYes.l0 k t413 t415 0 0 t404 t407 t410) else ((laws_alive.f).bind fun t418 => (some t418))) = some r:=H
   have A16:=Aside0.mk A160;clear A160
   by_cases c17 : t417 = true
   ·
    subst c17
    have H1 : (laws_FnSaysYes.l0 k t413 t415 0 0 t404 t407 t410) = some r:=by rw [if_pos rfl] at H;exact H
    clear H;have H:=H1;clear H1
    have H':=Aside0.mk H;clear H
    go_enter Tryd.func3,Tryd.ntmps3
    go_wp2_with (first|((with_reducible refine gate_callee (f:=5) rfl ?_);refine goesL_ (some 15) rfl rfl Tryd.func5 (by kernel_rfl) rfl #[.slice A0 l0.length c0] rfl (by (try simp only [List.map_toArray,List.map_cons,List.map_nil]);first|done|rfl|(simp only [List.length_drop,List.length_take];rfl)) ?_;(with_reducible refine (spec_DrawSaysYes.calls k _ _ l0 t404 t407 t410 t413 _ ?side1 ?side2 A3.out).mono ?_);(case side1 => repeat (first|exact HR0.out|(with_reducible refine Kd.C_alloc ?_ _)|(with_reducible refine Kd.C_drewN ?_ _)|(with_reducible refine Kd.C_drew ?_)));(case side2 => exact HC0.out);rintro e w18 ⟨v405,v408,v411,rfl,ho0,ho1,ho2,hb⟩;refine ⟨_,rfl,?_⟩;have n0_:=Aside0.mk (Kd.R_lower ho0 (below_size (belU HB.out)));have n1_:=Aside0.mk (Kd.R_lower ho1 (below_size (belU HB.out)));have n2_:=Aside0.mk (Kd.R_lower ho2 (below_size (belU HB.out)));have n3_:=Aside0.mk (below_step (belU HB.out) hb);clear HB;have HO406:=n0_;have HO409:=n1_;have HO412:=n2_;have HB:=n3_;clear n0_ n1_ n2_ n3_;(try clear hb);(try clear hb2);(try clear hk);(try clear hi);(try clear ho0);(try clear ho1);(try clear ho2))|((with_reducible refine gate_dst (N:=3) rfl ?_);(try (refine gate_guard (by rfl) ?_;dsimp only));refine box_event ?hg (N:=3) ?hd (cs:=#[.slice none 0 0,.slice none 0 0,.slice none 0 0]) (t:=25) ?hr ?_;(case hd => rfl);(case hg => rfl);(case hr => first|(go_simp;done)|(go_simp;rfl));intro gb414 hg w19 hbox hb;have n0_:=Aside0.mk (Kd.R_below (rU HO406.out) hb);have n1_:=Aside0.mk (Kd.R_below (rU HO409.out) hb);have n2_:=Aside0.mk (Kd.R_below (rU HO412.out) hb);have n3_:=Aside0.mk (below_step (belU HB.out) hb);have n4_:=Aside0.mk (hbox);have n5_:=Aside0.mk ((by rw [hg];exact (below_size (belU HB.out)) : w.heap.size ≤ gb414));have n6_:=Aside0.mk ((by rw [hg];exact (below_size (belU HB.out)) : w.heap.size ≤ gb414));clear HO406 HO409 HO412 HB;have HO406:=n0_;have HO409:=n1_;have HO412:=n2_;have HB:=n3_;have BK414:=n4_;have GW414:=n5_;have GE414:=n6_;clear n0_ n1_ n2_ n3_ n4_ n5_ n6_ hb hbox hg;obtain ⟨Ao20,co20,eo20⟩:=Kd.R_slice HO406.out;subst eo20;have hcz21_0 : w19.cell? ⟨gb414,0,none⟩ = some (.slice none 0 0):=(blk_cell BK414.out 0).trans rfl;have hcz21_1 : w19.cell? ⟨gb414,1,none⟩ = some (.slice none 0 0):=(blk_cell BK414.out 1).trans rfl;have hcz21_2 : w19.cell? ⟨gb414,2,none⟩ = some (.slice none 0 0):=(blk_cell BK414.out 2).trans rfl;have hfz21_0:=blk_frozen BK414.out 0;have hfz21_1:=blk_frozen BK414.out 1;have hfz21_2:=blk_frozen BK414.out 2;obtain ⟨Ao22,co22,eo22⟩:=Kd.R_slice HO409.out;subst eo22;obtain ⟨Ao23,co23,eo23⟩:=Kd.R_slice HO412.out;subst eo23)|((with_reducible refine gate_callee (f:=6) rfl ?_);refine goesL_ (some 20) rfl rfl Tryd.func6 (by kernel_rfl) rfl #[.agg #[.slice Ao20 t404.length co20,.slice Ao22 t407.length co22,.slice Ao23 t410.length co23],.string t413] rfl (by (try simp only [List.map_toArray,List.map_cons,List.map_nil]);first|done|rfl|(simp only [List.length_drop,List.length_take];rfl)) ?_;(with_reducible refine (impl_SaysYes.calls k _ _ t404 _ _ t407 _ _ t410 t413 t415 _ ?side1 ?side2 ?side3 ?side4 ?side5 ?side6 A4.out).mono ?_);(case side1 => refine (Kd.R_reads' (e:=3) (base:=w.heap.size) (ok:=fun k_ => (some k_ ≠ (.slice Ao22 t407.length co22 : Value).ownBlock ∧ some k_ ≠ (.slice Ao23 t410.length co23 : Value).ownBlock)) (n:=t404.length) (c:=co20) ?_).2.2;exact (by (with_reducible repeat (first|apply Kd.R_alloc|apply Kd.R_drewN|apply Kd.R_drew));exact (Kd.R_mono (Kd.R_far (p:=⟨gb414,2,none⟩) (Kd.R_far (p:=⟨gb414,1,none⟩) (Kd.R_far (p:=⟨gb414,0,none⟩) (Kd.R_types HO406.out BK414.out (by decide)) (fun _ hk => hk.2) (.slice Ao20 t404.length co20)) (fun _ hk => hk.2) (.slice Ao22 t407.length co22)) (fun _ hk => hk.2) (.slice Ao23 t410.length co23)) (fun _ h_ => h_.1))));(case side2 => exact (Kd.R_reads' HO406.out).2.1);(case side3 => refine (Kd.R_reads' (e:=3) (base:=w.heap.size) (ok:=fun k_ => (some k_ ≠ (.slice Ao20 t404.length co20 : Value).ownBlock ∧ some k_ ≠ (.slice Ao23 t410.length co23 : Value).ownBlock)) (n:=t407.length) (c:=co22) ?_).2.2;exact (by (with_reducible repeat (first|apply Kd.R_alloc|apply Kd.R_drewN|apply Kd.R_drew));exact (Kd.R_mono (Kd.R_far (p:=⟨gb414,2,none⟩) (Kd.R_far (p:=⟨gb414,1,none⟩) (Kd.R_far (p:=⟨gb414,0,none⟩) (Kd.R_types HO409.out BK414.out (by decide)) (fun _ hk => hk.2) (.slice Ao20 t404.length co20)) (fun _ hk => hk.2) (.slice Ao22 t407.length co22)) (fun _ hk => hk.2) (.slice Ao23 t410.length co23)) (fun _ h_ => h_.1))));(case side4 => exact (Kd.R_reads' HO409.out).2.1);(case side5 => refine (Kd.R_reads' (e:=3) (base:=w.heap.size) (ok:=fun k_ => (some k_ ≠ (.slice Ao20 t404.length co20 : Value).ownBlock ∧ some k_ ≠ (.slice Ao22 t407.length co22 : Value).ownBlock)) (n:=t410.length) (c:=co23) ?_).2.2;exact (by (with_reducible repeat (first|apply Kd.R_alloc|apply Kd.R_drewN|apply Kd.R_drew));exact (Kd.R_mono (Kd.R_far (p:=⟨gb414,2,none⟩) (Kd.R_far (p:=⟨gb414,1,none⟩) (Kd.R_far (p:=⟨gb414,0,none⟩) (Kd.R_types HO412.out BK414.out (by decide)) (fun _ hk => hk.2) (.slice Ao20 t404.length co20)) (fun _ hk => hk.2) (.slice Ao22 t407.length co22)) (fun _ hk => hk.2) (.slice Ao23 t410.length co23)) (fun _ h_ => h_.1))));(case side6 => exact (Kd.R_reads' HO412.out).2.1);rintro e w24 ⟨rfl,hb⟩;refine ⟨_,rfl,?_⟩;have n0_:=Aside0.mk (Kd.R_below (by (with_reducible repeat (first|apply Kd.R_alloc|apply Kd.R_drewN|apply Kd.R_drew));exact (Kd.R_mono (Kd.R_far (p:=⟨gb414,2,none⟩) (Kd.R_far (p:=⟨gb414,1,none⟩) (Kd.R_far (p:=⟨gb414,0,none⟩) (Kd.R_types HO406.out BK414.out (by decide)) (fun _ hk => hk.2) (.slice Ao20 t404.length co20)) (fun _ hk => hk.2) (.slice Ao22 t407.length co22)) (fun _ hk => hk.2) (.slice Ao23 t410.length co23)) (fun _ h_ => h_.1))) hb);have n1_:=Aside0.mk (Kd.R_below (by (with_reducible repeat (first|apply Kd.R_alloc|apply Kd.R_drewN|apply Kd.R_drew));exact (Kd.R_mono (Kd.R_far (p:=⟨gb414,2,none⟩) (Kd.R_far (p:=⟨gb414,1,none⟩) (Kd.R_far (p:=⟨gb414,0,none⟩) (Kd.R_types HO409.out BK414.out (by decide)) (fun _ hk => hk.2) (.slice Ao20 t404.length co20)) (fun _ hk => hk.2) (.slice Ao22 t407.length co22)) (fun _ hk => hk.2) (.slice Ao23 t410.length co23)) (fun _ h_ => h_.1))) hb);have n2_:=Aside0.mk (Kd.R_below (by (with_reducible repeat (first|apply Kd.R_alloc|apply Kd.R_drewN|apply Kd.R_drew));exact (Kd.R_mono (Kd.R_far (p:=⟨gb414,2,none⟩) (Kd.R_far (p:=⟨gb414,1,none⟩) (Kd.R_far (p:=⟨gb414,0,none⟩) (Kd.R_types HO412.out BK414.out (by decide)) (fun _ hk => hk.2) (.slice Ao20 t404.length co20)) (fun _ hk => hk.2) (.slice Ao22 t407.length co22)) (fun _ hk => hk.2) (.slice Ao23 t410.length co23)) (fun _ h_ => h_.1))) hb);have n3_:=Aside0.mk (blk_below (g:=gb414) (o:=.cells #[.slice Ao20 t404.length co20,.slice Ao22 t407.length co22,.slice Ao23 t410.length co23] 25 (0,0)) (by (with_reducible repeat (first|refine blk_drewN ?_ _|refine blk_drew ?_|refine blk_alloc ?_ _));refine blk_put (cs:=#[.slice Ao20 t404.length co20,.slice Ao22 t407.length co22,.slice none 0 0]) ?_ 2 _ rfl;(with_reducible repeat (first|refine blk_drewN ?_ _|refine blk_drew ?_|refine blk_alloc ?_ _));refine blk_put (cs:=#[.slice Ao20 t404.length co20,.slice none 0 0,.slice none 0 0]) ?_ 1 _ rfl;(with_reducible repeat (first|refine blk_drewN ?_ _|refine blk_drew ?_|refine blk_alloc ?_ _));refine blk_put (cs:=#[.slice none 0 0,.slice none 0 0,.slice none 0 0]) ?_ 0 _ rfl;(with_reducible repeat (first|refine blk_drewN ?_ _|refine blk_drew ?_|refine blk_alloc ?_ _));exact BK414.out) hb);have n4_:=Aside0.mk (below_step (by repeat (first|(with_reducible first|exact HB.out|apply below_alloc|apply pw_below_drewN|apply below_drew1|refine below_set ?_ GE414.out)|exact HB.out)) hb);clear HO406 HO409 HO412 BK414 HB;have HO406:=n0_;have HO409:=n1_;have HO412:=n2_;have BK414:=n3_;have HB:=n4_;clear n0_ n1_ n2_ n3_ n4_;(try clear hb);(try clear hb2);(try clear hk);(try clear hi);have hcz25_0 : w24.cell? ⟨gb414,0,none⟩ = some (.slice Ao20 t404.length co20):=(blk_cell BK414.out 0).trans rfl;have hcz25_1 : w24.cell? ⟨gb414,1,none⟩ = some (.slice Ao22 t407.length co22):=(blk_cell BK414.out 1).trans rfl;have hcz25_2 : w24.cell? ⟨gb414,2,none⟩ = some (.slice Ao23 t410.length co23):=(blk_cell BK414.out 2).trans rfl;have hfz25_0:=blk_frozen BK414.out 0;have hfz25_1:=blk_frozen BK414.out 1;have hfz25_2:=blk_frozen BK414.out 2)|((with_reducible refine gate_callee (f:=7) rfl ?_);refine goesL_ (some 24) rfl rfl Tryd.func7 (by kernel_rfl) rfl #[.agg #[.slice Ao20 t404.length co20,.slice Ao22 t407.length co22,.slice Ao23 t410.length co23],.string t413] rfl (by (try simp only [List.map_toArray,List.map_cons,List.map_nil]);first|done|rfl|(simp only [List.length_drop,List.length_take];rfl)) ?_;(with_reducible refine (spec_SaysYes.calls k _ _ t404 _ _ t407 _ _ t410 t413 t416 _ ?side1 ?side2 ?side3 ?side4 ?side5 ?side6 A5.out).mono ?_);(case side1 => exact cU (Kd.R_reads' HO406.out).2.2);(case side2 => exact (Kd.R_reads' HO406.out).2.1);(case side3 => exact cU (Kd.R_reads' HO409.out).2.2);(case side4 => exact (Kd.R_reads' HO409.out).2.1);(case side5 => exact cU (Kd.R_reads' HO412.out).2.2);(case side6 => exact (Kd.R_reads' HO412.out).2.1);rintro e w26 ⟨rfl,hb⟩;refine ⟨_,rfl,?_⟩;have n0_:=Aside0.mk (Kd.R_below (rU HO406.out) hb);have n1_:=Aside0.mk (Kd.R_below (rU HO409.out) hb);have n2_:=Aside0.mk (Kd.R_below (rU HO412.out) hb);have n3_:=Aside0.mk (blk_below (g:=gb414) (o:=.cells #[.slice Ao20 t404.length co20,.slice Ao22 t407.length co22,.slice Ao23 t410.length co23] 25 (0,0)) (blkU BK414.out) hb);have n4_:=Aside0.mk (below_step (by repeat (first|(with_reducible first|exact HB.out|apply below_alloc|apply pw_below_drewN|apply below_drew1|refine below_set ?_ GE414.out)|exact HB.out)) hb);clear HO406 HO409 HO412 BK414 HB;have HO406:=n0_;have HO409:=n1_;have HO412:=n2_;have BK414:=n3_;have HB:=n4_;clear n0_ n1_ n2_ n3_ n4_;(try clear hb);(try clear hb2);(try clear hk);(try clear hi);have hcz27_0 : w26.cell? ⟨gb414,0,none⟩ = some (.slice Ao20 t404.length co20):=(blk_cell BK414.out 0).trans rfl;have hcz27_1 : w26.cell? ⟨gb414,1,none⟩ = some (.slice Ao22 t407.length co22):=(blk_cell BK414.out 1).trans rfl;have hcz27_2 : w26.cell? ⟨gb414,2,none⟩ = some (.slice Ao23 t410.length co23):=(blk_cell BK414.out 2).trans rfl;have hfz27_0:=blk_frozen BK414.out 0;have hfz27_1:=blk_frozen BK414.out 1;have hfz27_2:=blk_frozen BK414.out 2)|((with_reducible refine gate_callee (f:=8) rfl ?_);refine goesL_ (some 27) rfl rfl Tryd.func8 (by kernel_rfl) rfl #[.agg #[.slice Ao20 t404.length co20,.slice Ao22 t407.length co22,.slice Ao23 t410.length co23]] rfl (by (try simp only [List.map_toArray,List.map_cons,List.map_nil]);first|done|rfl|(simp only [List.length_drop,List.length_take];rfl)) ?_;(with_reducible refine (impl_AnyOrder.calls k _ _ t404 _ _ t407 _ _ t410 true _ ?side1 ?side2 ?side3 ?side4 ?side5 ?side6 A16.out).mono ?_);(case side1 => exact cU (Kd.R_reads' HO406.out).2.2);(case side2 => exact (Kd.R_reads' HO406.out).2.1);(case side3 => exact cU (Kd.R_reads' HO409.out).2.2);(case side4 => exact (Kd.R_reads' HO409.out).2.1);(case side5 => exact cU (Kd.R_reads' HO412.out).2.2);(case side6 => exact (Kd.R_reads' HO412.out).2.1);rintro e w28 ⟨rfl,hb⟩;refine ⟨_,rfl,?_⟩;have n0_:=Aside0.mk (Kd.R_below (rU HO406.out) hb);have n1_:=Aside0.mk (Kd.R_below (rU HO409.out) hb);have n2_:=Aside0.mk (Kd.R_below (rU HO412.out) hb);have n3_:=Aside0.mk (blk_below (g:=gb414) (o:=.cells #[.slice Ao20 t404.length co20,.slice Ao22 t407.length co22,.slice Ao23 t410.length co23] 25 (0,0)) (blkU BK414.out) hb);have n4_:=Aside0.mk (below_step (by repeat (first|(with_reducible first|exact HB.out|apply below_alloc|apply pw_below_drewN|apply below_drew1|refine below_set ?_ GE414.out)|exact HB.out)) hb);clear HO406 HO409 HO412 BK414 HB;have HO406:=n0_;have HO409:=n1_;have HO412:=n2_;have BK414:=n3_;have HB:=n4_;clear n0_ n1_ n2_ n3_ n4_;(try clear hb);(try clear hb2);(try clear hk);(try clear hi)))
    go_loopg [6,7] k (fun kq v6 v7 w' => ∃ (x6_1 : Int) (x7_1 : Int),v6 = .int .i64 x6_1 ∧ v7 = .int .i64 x7_1 ∧ Aside0 (laws_FnSaysYes.l0 kq t413 t415 x6_1 x7_1 t404 t407 t410 = some r) ∧ Aside0 (kq ≤ k) ∧ Aside0 (Kd.R (Kd.int .i64) 3 w' w.heap.size (fun k_ => some k_ ≠ ((.slice Ao22 t407.length co22) : Value).ownBlock ∧ some k_ ≠ ((.slice Ao23 t410.length co23) : Value).ownBlock) (.slice Ao20 t404.length co20) t404) ∧ Aside0 (Kd.R (Kd.int .i64) 3 w' w.heap.size (fun k_ => some k_ ≠ ((.slice Ao20 t404.length co20) : Value).ownBlock ∧ some k_ ≠ ((.slice Ao23 t410.length co23) : Value).ownBlock) (.slice Ao22 t407.length co22) t407) ∧ Aside0 (Kd.R (Kd.int .i64) 3 w' w.heap.size (fun k_ => some k_ ≠ ((.slice Ao20 t404.length co20) : Value).ownBlock ∧ some k_ ≠ ((.slice Ao22 t407.length co22) : Value).ownBlock) (.slice Ao23 t410.length co23) t410) ∧ Aside0 (w'.heap[gb414]? = some (.cells #[(.slice Ao20 t404.length co20),(.slice Ao22 t407.length co22),(.slice Ao23 t410.length co23)] 25 (0,0))) ∧ Aside0 (Below w.heap.size w w'))
    case atStart => exact ⟨(0),(0),(by first|rfl|(simp;done)|(simp [*];done)),(by first|rfl|(simp;done)|(simp [*];done)),H',⟨Nat.le_refl _⟩,⟨rU HO406.out⟩,⟨rU HO409.out⟩,⟨rU HO412.out⟩,⟨blkU BK414.out⟩,⟨by repeat (first|(with_reducible first|exact HB.out|apply below_alloc|apply pw_below_drewN|apply below_drew1|refine below_set ?_ GE414.out)|exact HB.out)⟩⟩
    case round =>
     clear H'
     try clear c1
     try clear c2
     try clear c2b0
     try clear c2b1
     try clear p2
     try clear c3
     try clear c5
     try clear c6
     try clear c6b0
     try clear c6b1
     try clear c6b2
     try clear c7
     try clear c8
     try clear c17
     try clear hcz10_0
     try clear hcz10_1
     try clear hcz10_2
     try clear hcz14_0
     try clear hcz14_1
     try clear hcz14_2
     try clear hcz21_0
     try clear hcz21_1
     try clear hcz21_2
     try clear hcz25_0
     try clear hcz25_1
     try clear hcz25_2
     try clear hcz27_0
     try clear hcz27_1
     try clear hcz27_2
     try clear hfz10_0
     try clear hfz10_1
     try clear hfz10_2
     try clear hfz14_0
     try clear hfz14_1
     try clear hfz14_2
     try clear hfz21_0
     try clear hfz21_1
     try clear hfz21_2
     try clear hfz25_0
     try clear hfz25_1
     try clear hfz25_2
     try clear hfz27_0
     try clear hfz27_1
     try clear hfz27_2
     obtain ⟨x6_1,x7_1,rfl,rfl,HA,HK1,HO_415000,HO_415001,HO_415002,BK414,HB⟩:=hrel
     cases gk with
     | zero => exact absurd HA.out (by simp [laws_FnSaysYes.l0])
     | succ k1 =>
      have H:=HA.out;clear HA
      simp only [laws_FnSaysYes.l0] at H
      by_cases c29 : x7_1 < (t413.size : Int)
      ·
       rw [if_pos c29] at H
       have c29b0 : decide (x7_1 < (t413.size : Int)) = true:=decide_eq_true c29;clear c29
       by_cases c30 : 0 ≤ x7_1
       ·
        rw [if_pos c30] at H
        have c30b0 : decide (0 ≤ x7_1) = true:=decide_eq_true c30;clear c30
        have HC32:=Aside0.mk H;clear H
        have p31 : 0 ≤ (x7_1 : Int):=of_decide_eq_true (by first|(with_reducible assumption)|assumption)
        have q31 : x7_1 < (t413.size : Int):=of_decide_eq_true (by first|(with_reducible assumption)|assumption)
        have hx31:=bt_at t413 x7_1
        replace p31:=eq_true p31
        replace q31:=eq_true q31
        go_upto_if 39 with (fail)
        go_cut [6] (fun v6 wc => ∃ (kq : Nat) (x6_31 : Int),v6 = .int .i64 x6_31 ∧ Aside0 (laws_FnSaysYes.j1 kq t413 t415 x6_31 x7_1 t404 t407 t410 = some r) ∧ Aside0 (kq ≤ k1) ∧ Aside0 (Kd.R (Kd.int .i64) 3 wc w.heap.size (fun k_ => some k_ ≠ ((.slice Ao22 t407.length co22) : Value).ownBlock ∧ some k_ ≠ ((.slice Ao23 t410.length co23) : Value).ownBlock) (.slice Ao20 t404.length co20) t404) ∧ Aside0 (Kd.R (Kd.int .i64) 3 wc w.heap.size (fun k_ => some k_ ≠ ((.slice Ao20 t404.length co20) : Value).ownBlock ∧ some k_ ≠ ((.slice Ao23 t410.length co23) : Value).ownBlock) (.slice Ao22 t407.length co22) t407) ∧ Aside0 (Kd.R (Kd.int .i64) 3 wc w.heap.size (fun k_ => some k_ ≠ ((.slice Ao20 t404.length co20) : Value).ownBlock ∧ some k_ ≠ ((.slice Ao22 t407.length co22) : Value).ownBlock) (.slice Ao23 t410.length co23) t410) ∧ Aside0 (wc.heap[gb414]? = some (.cells #[(.slice Ao20 t404.length co20),(.slice Ao22 t407.length co22),(.slice Ao23 t410.length co23)] 25 (0,0))) ∧ Aside0 (Below w.heap.size w wc))
        case first =>
         have H:=HC32.out;clear HC32
         by_cases c33 : (bt t413 x7_1) = 49
         ·
          rw [if_pos c33] at H
          have c33b0 : ((bt t413 x7_1) == 49) = true:=beq_iff_eq.mpr c33
          have c33b1 : ((bt t413 x7_1) != 49) = false:=bne_eq_false_iff_eq.mpr c33;clear c33
          (first|rw [c33b0]|(simp only [i64_w,i32_w];rw [c33b0])|skip)
          have H':=Aside0.mk H;clear H
          go_wp2
          go_meet
          case rel => exact ⟨_,(wrap64 (x6_1 + 1)),(by first|rfl|(simp;done)|(simp [*];done)),H',⟨by have:=HK1.out;first|omega|exact Nat.le_refl _⟩,⟨rU HO_415000.out⟩,⟨rU HO_415001.out⟩,⟨rU HO_415002.out⟩,⟨blkU BK414.out⟩,⟨by repeat (first|(with_reducible first|exact HB.out|apply below_alloc|apply pw_below_drewN|apply below_drew1|refine below_set ?_ GE414.out)|exact HB.out)⟩⟩
         ·
          rw [if_neg c33] at H
          have c33b0 : ((bt t413 x7_1) == 49) = false:=beq_eq_false_iff_ne.mpr c33
          have c33b1 : ((bt t413 x7_1) != 49) = true:=bne_iff_ne.mpr c33
          (first|rw [c33b0]|(simp only [i64_w,i32_w];rw [c33b0])|skip)
          have H':=Aside0.mk H;clear H
          go_wp2
          go_meet
          case rel => exact ⟨_,(x6_1),(by first|rfl|(simp;done)|(simp [*];done)),H',⟨by have:=HK1.out;first|omega|exact Nat.le_refl _⟩,⟨rU HO_415000.out⟩,⟨rU HO_415001.out⟩,⟨rU HO_415002.out⟩,⟨blkU BK414.out⟩,⟨by repeat (first|(with_reducible first|exact HB.out|apply below_alloc|apply pw_below_drewN|apply below_drew1|refine below_set ?_ GE414.out)|exact HB.out)⟩⟩
        case rest =>
         clear HC32
         try clear c1
         try clear c2
         try clear c2b0
         try clear c2b1
         try clear p2
         try clear c3
         try clear p3
         try clear q3
         try clear hx3
         try clear c5
         try clear c6
         try clear c6b0
         try clear c6b1
         try clear c6b2
         try clear p6
         try clear c7
         try clear c8
         try clear c17
         try clear c29
         try clear c29b0
         try clear c30
         try clear c30b0
         try clear p31
         try clear q31
         try clear hx31
         try clear c33
         try clear c33b0
         try clear c33b1
         try clear hcz10_0
         try clear hcz10_1
         try clear hcz10_2
         try clear hcz14_0
         try clear hcz14_1
         try clear hcz14_2
         try clear hcz21_0
         try clear hcz21_1
         try clear hcz21_2
         try clear hcz25_0
         try clear hcz25_1
         try clear hcz25_2
         try clear hcz27_0
         try clear hcz27_1
         try clear hcz27_2
         try clear hfz10_0
         try clear hfz10_1
         try clear hfz10_2
         try clear hfz14_0
         try clear hfz14_1
         try clear hfz14_2
         try clear hfz21_0
         try clear hfz21_1
         try clear hfz21_2
         try clear hfz25_0
         try clear hfz25_1
         try clear hfz25_2
         try clear hfz27_0
         try clear hfz27_1
         try clear hfz27_2
         try clear p2
         try clear p31
         try clear q31
         obtain ⟨kq,x6_31,rfl,HA,HJ31,HO_415000,HO_415001,HO_415002,BK414,HB⟩:=hcut
         cases kq with
         | zero => exact absurd HA.out (by simp [laws_FnSaysYes.j1])
         | succ kj31 =>
          have H:=HA.out;clear HA
          simp only [laws_FnSaysYes.j1] at H
          have HC34:=Aside0.mk H;clear H
          go_upto_region 15 with (fail)
          go_cut [51] (fun v51 wc => ∃ (kq : Nat) (x51_33 : Bool),v51 = .bool x51_33 ∧ Aside0 (laws_FnSaysYes.j2 kq t413 t415 x6_31 x7_1 x51_33 t404 t407 t410 = some r) ∧ Aside0 (kq ≤ kj31) ∧ Aside0 (Kd.R (Kd.int .i64) 3 wc w.heap.size (fun k_ => some k_ ≠ ((.slice Ao22 t407.length co22) : Value).ownBlock ∧ some k_ ≠ ((.slice Ao23 t410.length co23) : Value).ownBlock) (.slice Ao20 t404.length co20) t404) ∧ Aside0 (Kd.R (Kd.int .i64) 3 wc w.heap.size (fun k_ => some k_ ≠ ((.slice Ao20 t404.length co20) : Value).ownBlock ∧ some k_ ≠ ((.slice Ao23 t410.length co23) : Value).ownBlock) (.slice Ao22 t407.length co22) t407) ∧ Aside0 (Kd.R (Kd.int .i64) 3 wc w.heap.size (fun k_ => some k_ ≠ ((.slice Ao20 t404.length co20) : Value).ownBlock ∧ some k_ ≠ ((.slice Ao22 t407.length co22) : Value).ownBlock) (.slice Ao23 t410.length co23) t410) ∧ Aside0 (wc.heap[gb414]? = some (.cells #[(.slice Ao20 t404.length co20),(.slice Ao22 t407.length co22),(.slice Ao23 t410.length co23)] 25 (0,0))) ∧ Aside0 (Below w.heap.size w wc))
          case first =>
           have H:=HC34.out;clear HC34
           by_cases c35 : 0 ≤ x7_1
           ·
            rw [if_pos c35] at H
            have c35b0 : decide (0 ≤ x7_1) = true:=decide_eq_true c35;clear c35
            (first|rw [c35b0]|(simp only [i64_w,i32_w];rw [c35b0])|skip)
            by_cases c36 : x7_1 < (t413.size : Int)
            ·
             rw [if_pos c36] at H
             have c36b0 : decide (x7_1 < (t413.size : Int)) = true:=decide_eq_true c36;clear c36
             by_cases c38 : (bt t413 x7_1) = 48
             ·
              rw [if_pos c38] at H
              have c38b0 : ((bt t413 x7_1) == 48) = true:=beq_iff_eq.mpr c38
              have c38b1 : ((bt t413 x7_1) != 48) = false:=bne_eq_false_iff_eq.mpr c38;clear c38
              have H':=Aside0.mk H;clear H
              have p37 : 0 ≤ (x7_1 : Int):=of_decide_eq_true (by first|(with_reducible assumption)|assumption)
              have q37 : x7_1 < (t413.size : Int):=of_decide_eq_true (by first|(with_reducible assumption)|assumption)
              have hx37:=bt_at t413 x7_1
              replace p37:=eq_true p37
              replace q37:=eq_true q37
              go_wp2
              go_meet
              case rel => exact ⟨_,(false),(by first|rfl|(simp;done)|(simp [*];done)),H',⟨by have:=HK1.out;have:=HJ31.out;first|omega|exact Nat.le_refl _⟩,⟨rU HO_415000.out⟩,⟨rU HO_415001.out⟩,⟨rU HO_415002.out⟩,⟨blkU BK414.out⟩,⟨by repeat (first|(with_reducible first|exact HB.out|apply below_alloc|apply pw_below_drewN|apply below_drew1|refine below_set ?_ GE414.out)|exact HB.out)⟩⟩
             ·
              rw [if_neg c38] at H
              have c38b0 : ((bt t413 x7_1) == 48) = false:=beq_eq_false_iff_ne.mpr c38
              have c38b1 : ((bt t413 x7_1) != 48) = true:=bne_iff_ne.mpr c38
              have H':=Aside0.mk H;clear H
              have p37 : 0 ≤ (x7_1 : Int):=of_decide_eq_true (by first|(with_reducible assumption)|assumption)
              have q37 : x7_1 < (t413.size : Int):=of_decide_eq_true (by first|(with_reducible assumption)|assumption)
              have hx37:=bt_at t413 x7_1
              replace p37:=eq_true p37
              replace q37:=eq_true q37
              have p39 : 0 ≤ (x7_1 : Int):=of_decide_eq_true (by first|(with_reducible assumption)|assumption)
              have q39 : x7_1 < (t413.size : Int):=of_decide_eq_true (by first|(with_reducible assumption)|assumption)
              have hx39:=bt_at t413 x7_1
              replace p39:=eq_true p39
              replace q39:=eq_true q39
              go_wp2
              go_meet
              case rel => exact ⟨_,(((bt t413 x7_1) != 49)),(by first|rfl|(simp;done)|(simp [*];done)),H',⟨by have:=HK1.out;have:=HJ31.out;first|omega|exact Nat.le_refl _⟩,⟨rU HO_415000.out⟩,⟨rU HO_415001.out⟩,⟨rU HO_415002.out⟩,⟨blkU BK414.out⟩,⟨by repeat (first|(with_reducible first|exact HB.out|apply below_alloc|apply pw_below_drewN|apply below_drew1|refine below_set ?_ GE414.out)|exact HB.out)⟩⟩
            ·
             rw [if_neg c36] at H
             exact absurd H (by simp)
           ·
            rw [if_neg c35] at H
            exact absurd H (by simp)
          case rest =>
           clear HC34
           try clear c1
           try clear c2
           try clear c2b0
           try clear c2b1
           try clear p2
           try clear c3
           try clear p3
           try clear q3
           try clear hx3
           try clear c5
           try clear c6
           try clear c6b0
           try clear c6b1
           try clear c6b2
           try clear p6
           try clear c7
           try clear c8
           try clear c17
           try clear c29
           try clear c29b0
           try clear c30
           try clear c30b0
           try clear p31
           try clear q31
           try clear hx31
           try clear c33
           try clear c33b0
           try clear c33b1
           try clear c35
           try clear c35b0
           try clear c36
           try clear c36b0
           try clear p37
           try clear q37
           try clear hx37
           try clear c38
           try clear c38b0
           try clear c38b1
           try clear p39
           try clear q39
           try clear hx39
           try clear hcz10_0
           try clear hcz10_1
           try clear hcz10_2
           try clear hcz14_0
           try clear hcz14_1
           try clear hcz14_2
           try clear hcz21_0
           try clear hcz21_1
           try clear hcz21_2
           try clear hcz25_0
           try clear hcz25_1
           try clear hcz25_2
           try clear hcz27_0
           try clear hcz27_1
           try clear hcz27_2
           try clear hfz10_0
           try clear hfz10_1
           try clear hfz10_2
           try clear hfz14_0
           try clear hfz14_1
           try clear hfz14_2
           try clear hfz21_0
           try clear hfz21_1
           try clear hfz21_2
           try clear hfz25_0
           try clear hfz25_1
           try clear hfz25_2
           try clear hfz27_0
           try clear hfz27_1
           try clear hfz27_2
           try clear p2
           try clear p3
           try clear p31
           try clear p37
           try clear p39
           try clear p6
           try clear q3
           try clear q31
           try clear q37
           try clear q39
           obtain ⟨kq,x51_33,rfl,HA,HJ33,HO_415000,HO_415001,HO_415002,BK414,HB⟩:=hcut
           cases kq with
           | zero => exact absurd HA.out (by simp [laws_FnSaysYes.j2])
           | succ kj33 =>
            have H:=HA.out;clear HA
            simp only [laws_FnSaysYes.j2] at H
            by_cases c40 : x51_33 = true
            ·
             subst c40
             have H1 : (some (!t415)) = some r:=by rw [if_pos rfl] at H;exact H
             clear H;have H:=H1;clear H1
             obtain rfl:=Option.some.inj H
             go_wp2
             go_ret
             exact ⟨by first|rfl|(simp [errW_none,errW_some] <;> rfl)|(simp [*,errW_none,errW_some] <;> rfl),by repeat (first|(with_reducible first|exact HB.out|apply below_alloc|apply pw_below_drewN|apply below_drew1|refine below_set ?_ GE414.out)|exact HB.out)⟩
            ·
             replace c40:=Bool.eq_false_iff.mpr c40;subst c40
             have H1 : (if x7_1 > 0 then (if 0 ≤ (wrap64 (x7_1 - 1)) then (if (wrap64 (x7_1 - 1)) ≤ (t413.size : Int) then (if 0 ≤ x7_1 then (if x7_1 ≤ (wrap64 (x7_1 + 1)) then (if (wrap64 (x7_1 + 1)) ≤ (t413.size : Int) then (if (t413.extract 0 ((wrap64 (x7_1 - 1)) : Int).toNat).size + (t413.extract (x7_1 : Int).toNat ((wrap64 (x7_1 + 1)) : Int).toNat).size ≤ 9223372036854775807 then (if (wrap64 (x7_1 - 1)) ≤ x7_1 then (if x7_1 ≤ (t413.size : Int) then (if ((t413.extract 0 ((wrap64 (x7_1 - 1)) : Int).toNat) ++ (t413.extract (x7_1 : Int).toNat ((wrap64 (x7_1 + 1)) : Int).toNat)).size + (t413.extract ((wrap64 (x7_1 - 1)) : Int).toNat (x7_1 : Int).toNat).size ≤ 9223372036854775807 then (if 0 ≤ (wrap64 (x7_1 + 1)) then (if (((t413.extract 0 ((wrap64 (x7_1 - 1)) : Int).toNat) ++ (t413.extract (x7_1 : Int).toNat ((wrap64 (x7_1 + 1)) : Int).toNat)) ++ (t413.extract ((wrap64 (x7_1 - 1)) : Int).toNat (x7_1 : Int).toNat)).size + (t413.extract ((wrap64 (x7_1 + 1)) : Int).toNat t413.size).size ≤ 9223372036854775807 then ((impl_SaysYes.f kj33 t404 t407 t410 ((((t413.extract 0 ((wrap64 (x7_1 - 1)) : Int).toNat) ++ (t413.extract (x7_1 : Int).toNat ((wrap64 (x7_1 + 1)) : Int).toNat)) ++ (t413.extract ((wrap64 (x7_1 - 1)) : Int).toNat (x7_1 : Int).toNat)) ++ (t413.extract ((wrap64 (x7_1 + 1)) : Int).toNat t413.size))).bind fun t424 => (if (t424 != t415) = true then (some false) else (laws_FnSaysYes.l0 kj33 t413 t415 x6_31 (wrap64 (x7_1 + 1)) t404 t407 t410))) else (none)) else (none)) else (none)) else (none)) else (none)) else (none)) else (none)) else (none)) else (none)) else (none)) else (none)) else (laws_FnSaysYes.l0 kj33 t413 t415 x6_31 (wrap64 (x7_1 + 1)) t404 t407 t410)) = some r:=by rw [if_neg (show ¬ (false = true) by decide)] at H;exact H
             clear H;have H:=H1;clear H1
             by_cases c41 : x7_1 > 0
             ·
              rw [if_pos c41] at H
              have c41b0 : decide (0 < x7_1) = true:=decide_eq_true c41;clear c41
              obtain ⟨ji42,hji42⟩ : ∃ j_ : Int,(wrap64 (x7_1 - 1)) = j_:=⟨_,rfl⟩
              replace H : (if 0 ≤ (ji42) then (if (ji42) ≤ (t413.size : Int) then (if 0 ≤ x7_1 then (if x7_1 ≤ (wrap64 (x7_1 + 1)) then (if (wrap64 (x7_1 + 1)) ≤ (t413.size : Int) then (if (t413.extract 0 ((ji42) : Int).toNat).size + (t413.extract (x7_1 : Int).toNat ((wrap64 (x7_1 + 1)) : Int).toNat).size ≤ 9223372036854775807 then (if (ji42) ≤ x7_1 then (if x7_1 ≤ (t413.size : Int) then (if ((t413.extract 0 ((ji42) : Int).toNat) ++ (t413.extract (x7_1 : Int).toNat ((wrap64 (x7_1 + 1)) : Int).toNat)).size + (t413.extract ((ji42) : Int).toNat (x7_1 : Int).toNat).size ≤ 9223372036854775807 then (if 0 ≤ (wrap64 (x7_1 + 1)) then (if (((t413.extract 0 ((ji42) : Int).toNat) ++ (t413.extract (x7_1 : Int).toNat ((wrap64 (x7_1 + 1)) : Int).toNat)) ++ (t413.extract ((ji42) : Int).toNat (x7_1 : Int).toNat)).size + (t413.extract ((wrap64 (x7_1 + 1)) : Int).toNat t413.size).size ≤ 9223372036854775807 then ((impl_SaysYes.f kj33 t404 t407 t410 ((((t413.extract 0 ((ji42) : Int).toNat) ++ (t413.extract (x7_1 : Int).toNat ((wrap64 (x7_1 + 1)) : Int).toNat)) ++ (t413.extract ((ji42) : Int).toNat (x7_1 : Int).toNat)) ++ (t413.extract ((wrap64 (x7_1 + 1)) : Int).toNat t413.size))).bind fun t424 => (if (t424 != t415) = true then (some false) else (laws_FnSaysYes.l0 kj33 t413 t415 x6_31 (wrap64 (x7_1 + 1)) t404 t407 t410))) else (none)) else (none)) else (none)) else (none)) else (none)) else (none)) else (none)) else (none)) else (none)) else (none)) else (none)) = some r:=by first|(rw [hji42] at H;exact H)|(simp only [hji42] at H ⊢;exact H)
              have hji42w : (IntKind.i64.wrap (x7_1 - 1)) = ji42:=(i64_w _).trans hji42
              by_cases c43 : 0 ≤ (ji42)
              ·
               rw [if_pos c43] at H
               have c43b0:=eq_true c43
               have c43b1 : decide (0 ≤ (ji42)) = true:=decide_eq_true c43;clear c43
               by_cases c44 : (ji42) ≤ (t413.size : Int)
               ·
                rw [if_pos c44] at H
                have c44b0:=eq_true c44
                have c44b1 : decide ((ji42) ≤ (t413.size : Int)) = true:=decide_eq_true c44;clear c44
                by_cases c45 : 0 ≤ x7_1
                ·
                 rw [if_pos c45] at H
                 have c45b0:=eq_true c45
                 have c45b1 : decide (0 ≤ x7_1) = true:=decide_eq_true c45;clear c45
                 by_cases c46 : x7_1 ≤ (wrap64 (x7_1 + 1))
                 ·
                  rw [if_pos c46] at H
                  have c46b0:=eq_true c46
                  have c46b1 : decide (x7_1 ≤ (wrap64 (x7_1 + 1))) = true:=decide_eq_true c46
                  by_cases c47 : (wrap64 (x7_1 + 1)) ≤ (t413.size : Int)
                  ·
                   rw [if_pos c47] at H
                   have c47b0:=eq_true c47
                   have c47b1 : decide ((wrap64 (x7_1 + 1)) ≤ (t413.size : Int)) = true:=decide_eq_true c47
                   by_cases c48 : (t413.extract 0 ((ji42) : Int).toNat).size + (t413.extract (x7_1 : Int).toNat ((wrap64 (x7_1 + 1)) : Int).toNat).size ≤ 9223372036854775807
                   ·
                    rw [if_pos c48] at H
                    have c48b0:=eq_true c48
                    have c48b1 : decide ((t413.extract 0 ((ji42) : Int).toNat).size + (t413.extract (x7_1 : Int).toNat ((wrap64 (x7_1 + 1)) : Int).toNat).size ≤ 9223372036854775807) = true:=decide_eq_true c48
                    try have c48b2 : (9223372036854775807 < (t413.extract 0 ((ji42) : Int).toNat).size + (t413.extract (x7_1 : Int).toNat ((wrap64 (x7_1 + 1)) : Int).toNat).size) = False:=eq_false (Nat.not_lt.2 c48)
                    have c48n:=c48
                    (try simp only [ByteArray.size_append,Nat.reduceAdd] at c48n)
                    (try have c48n0:=eq_true c48n)
                    (try have c48n1:=decide_eq_true c48n)
                    (try have c48n2:=eq_false (Nat.not_lt.2 c48n))
                    have c49b0:=eq_true (of_decide_eq_true (by first|(with_reducible assumption)|assumption) : 0 ≤ (ji42))
                    by_cases c50 : (ji42) ≤ x7_1
                    ·
                     rw [if_pos c50] at H
                     have c50b0:=eq_true c50
                     have c50b1 : decide ((ji42) ≤ x7_1) = true:=decide_eq_true c50;clear c50
                     by_cases c51 : x7_1 ≤ (t413.size : Int)
                     ·
                      rw [if_pos c51] at H
                      have c51b0:=eq_true c51
                      have c51b1 : decide (x7_1 ≤ (t413.size : Int)) = true:=decide_eq_true c51;clear c51
                      by_cases c52 : ((t413.extract 0 ((ji42) : Int).toNat) ++ (t413.extract (x7_1 : Int).toNat ((wrap64 (x7_1 + 1)) : Int).toNat)).size + (t413.extract ((ji42) : Int).toNat (x7_1 : Int).toNat).size ≤ 9223372036854775807
                      ·
                       rw [if_pos c52] at H
                       have c52b0:=eq_true c52
                       have c52b1 : decide (((t413.extract 0 ((ji42) : Int).toNat) ++ (t413.extract (x7_1 : Int).toNat ((wrap64 (x7_1 + 1)) : Int).toNat)).size + (t413.extract ((ji42) : Int).toNat (x7_1 : Int).toNat).size ≤ 9223372036854775807) = true:=decide_eq_true c52
                       try have c52b2 : (9223372036854775807 < ((t413.extract 0 ((ji42) : Int).toNat) ++ (t413.extract (x7_1 : Int).toNat ((wrap64 (x7_1 + 1)) : Int).toNat)).size + (t413.extract ((ji42) : Int).toNat (x7_1 : Int).toNat).size) = False:=eq_false (Nat.not_lt.2 c52)
                       have c52n:=c52
                       (try simp only [ByteArray.size_append,Nat.reduceAdd] at c52n)
                       (try have c52n0:=eq_true c52n)
                       (try have c52n1:=decide_eq_true c52n)
                       (try have c52n2:=eq_false (Nat.not_lt.2 c52n))
                       obtain ⟨ji53,hji53⟩ : ∃ j_ : Int,(wrap64 (x7_1 + 1)) = j_:=⟨_,rfl⟩
                       replace H : (if 0 ≤ (ji53) then (if (((t413.extract 0 ((ji42) : Int).toNat) ++ (t413.extract (x7_1 : Int).toNat ((ji53) : Int).toNat)) ++ (t413.extract ((ji42) : Int).toNat (x7_1 : Int).toNat)).size + (t413.extract ((ji53) : Int).toNat t413.size).size ≤ 9223372036854775807 then ((impl_SaysYes.f kj33 t404 t407 t410 ((((t413.extract 0 ((ji42) : Int).toNat) ++ (t413.extract (x7_1 : Int).toNat ((ji53) : Int).toNat)) ++ (t413.extract ((ji42) : Int).toNat (x7_1 : Int).toNat)) ++ (t413.extract ((ji53) : Int).toNat t413.size))).bind fun t424 => (if (t424 != t415) = true then (some false) else (laws_FnSaysYes.l0 kj33 t413 t415 x6_31 ji53 t404 t407 t410))) else (none)) else (none)) = some r:=by first|(rw [hji53] at H;exact H)|(simp only [hji53] at H ⊢;exact H)
                       (try rw [hji53] at c46b0)
                       (try rw [hji53] at c46b1)
                       (try rw [hji53] at c46)
                       (try rw [hji53] at c47b0)
                       (try rw [hji53] at c47b1)
                       (try rw [hji53] at c47)
                       (try rw [hji53] at c48b0)
                       (try rw [hji53] at c48b1)
                       (try rw [hji53] at c48)
                       (try rw [hji53] at c52b0)
                       (try rw [hji53] at c52b1)
                       (try rw [hji53] at c52)
                       have hji53w : (IntKind.i64.wrap (x7_1 + 1)) = ji53:=(i64_w _).trans hji53
                       by_cases c54 : 0 ≤ (ji53)
                       ·
                        rw [if_pos c54] at H
                        have c54b0:=eq_true c54
                        have c54b1 : decide (0 ≤ (ji53)) = true:=decide_eq_true c54;clear c54
                        have c55b0:=eq_true (of_decide_eq_true (by first|(with_reducible assumption)|assumption) : (ji53) ≤ (t413.size : Int))
                        by_cases c56 : (((t413.extract 0 ((ji42) : Int).toNat) ++ (t413.extract (x7_1 : Int).toNat ((ji53) : Int).toNat)) ++ (t413.extract ((ji42) : Int).toNat (x7_1 : Int).toNat)).size + (t413.extract ((ji53) : Int).toNat t413.size).size ≤ 9223372036854775807
                        ·
                         rw [if_pos c56] at H
                         have c56b0:=eq_true c56
                         have c56b1 : decide ((((t413.extract 0 ((ji42) : Int).toNat) ++ (t413.extract (x7_1 : Int).toNat ((ji53) : Int).toNat)) ++ (t413.extract ((ji42) : Int).toNat (x7_1 : Int).toNat)).size + (t413.extract ((ji53) : Int).toNat t413.size).size ≤ 9223372036854775807) = true:=decide_eq_true c56
                         try have c56b2 : (9223372036854775807 < (((t413.extract 0 ((ji42) : Int).toNat) ++ (t413.extract (x7_1 : Int).toNat ((ji53) : Int).toNat)) ++ (t413.extract ((ji42) : Int).toNat (x7_1 : Int).toNat)).size + (t413.extract ((ji53) : Int).toNat t413.size).size) = False:=eq_false (Nat.not_lt.2 c56)
                         have c56n:=c56
                         (try simp only [ByteArray.size_append,Nat.reduceAdd] at c56n)
                         (try have c56n0:=eq_true c56n)
                         (try have c56n1:=decide_eq_true c56n)
                         (try have c56n2:=eq_false (Nat.not_lt.2 c56n))
                         replace H:=Option.bind_eq_some_iff.mp H
                         obtain ⟨t424,A570,H⟩:=H
                         have q1_ : ji42.toNat ≤ t413.size:=by have a_:=of_decide_eq_true c44b1;omega
                         have q2_ : ji53.toNat ≤ t413.size:=by have a_:=of_decide_eq_true c47b1;omega
                         have q3_ : x7_1.toNat ≤ ji53.toNat:=by have a_:=of_decide_eq_true c46b1;omega
                         have s_c48b1:=of_decide_eq_true c48b1;simp only [ByteArray.size_append,ByteArray.size_extract] at s_c48b1
                         have s_c52b1:=of_decide_eq_true c52b1;simp only [ByteArray.size_append,ByteArray.size_extract] at s_c52b1
                         have s_c56b1:=of_decide_eq_true c56b1;simp only [ByteArray.size_append,ByteArray.size_extract] at s_c56b1
                         have z_c48b1 : (9223372036854775807 < ji42.toNat + (ji53.toNat - x7_1.toNat)) = False:=eq_false (by omega)
                         have z_c52b1 : (9223372036854775807 < ji42.toNat + (ji53.toNat - x7_1.toNat) + (x7_1.toNat - ji42.toNat)) = False:=eq_false (by omega)
                         have z_c56b1 : (9223372036854775807 < ji42.toNat + (ji53.toNat - x7_1.toNat) + (x7_1.toNat - ji42.toNat) + (t413.size - ji53.toNat)) = False:=eq_false (by omega)
                         clear q1_ q2_ q3_ s_c48b1 s_c52b1 s_c56b1
                         replace H : (if (t424 != t415) = true then (some false) else (laws_FnSaysYes.l0 kj33 t413 t415 x6_31 ji53 t404 t407 t410)) = some r:=H
                         have A57:=Aside0.mk A570;clear A570
                         by_cases c58 : (t424 != t415) = true
                         ·
                          rw [if_pos c58] at H
                          have c58b0 : (t424 != t415) = true:=c58
                          (try (have c58b1 : decide (t424 = t415) = false:=by simpa using c58))
                          (try (have c58b2 : (t424 == t415) = false:=by simpa using c58))
                          (try (have c58b3 : ¬ (t424 = t415):=by simpa using c58));clear c58
                          obtain rfl:=Option.some.inj H
                          try go_wp2
                          have n0_:=Aside0.mk (Kd.R_drew HO_415000.out);have n1_:=Aside0.mk (Kd.R_drew HO_415001.out);have n2_:=Aside0.mk (Kd.R_drew HO_415002.out);have n3_:=Aside0.mk (blk_drew BK414.out);have n4_:=Aside0.mk (below_drew1 HB.out);clear HO_415000 HO_415001 HO_415002 BK414 HB;have HO_415000:=n0_;have HO_415001:=n1_;have HO_415002:=n2_;have BK414:=n3_;have HB:=n4_;clear n0_ n1_ n2_ n3_ n4_
                          refine start_ (n:=29) (S:=fun w' => w'.cell? ⟨gb414,0,none⟩ = some (.slice Ao20 t404.length co20) ∧ w'.cell? ⟨gb414,1,none⟩ = some (.slice Ao22 t407.length co22) ∧ w'.cell? ⟨gb414,2,none⟩ = some (.slice Ao23 t410.length co23)) (ds:=[]) #[false,false,false,false,false,false,false,false,false,false,false,false,false,false,false,false,false,false,false,false,false,false,false,false,false,false,false,false,false] (by kernel_rfl) rfl rfl ⟨(blk_cell BK414.out 0).trans rfl,(blk_cell BK414.out 1).trans rfl,(blk_cell BK414.out 2).trans rfl⟩ (fun hHeld => ?_);refine with_tabW laws_FnSaysYes.tab17 laws_FnSaysYes.bits17 (fun HT_ HW_ => ?_)
                          generalize wc.drew = w59 at HO_415000 HO_415001 HO_415002 BK414 HB hHeld ⊢
                          refine pure_ (i:=0) (N:=some 54) (v:=?_) (a':=?_) #[true,false,false,false,false,false,false,false,false,false,false,false,false,false,false,false,false,false,false,false,false,false,false,false,false,false,false,false,false] rfl rfl (any_of HT_.out (by kernel_rfl)) (fun _ _ _ h => h) (Or.inl ⟨by rfl,?_⟩) ?_ ?_;rotate_left
                          ·
                           intro w'
                           go_simp
                           with_reducible rfl
                          rotate_left
                          ·
                           simp only [Act.put,List.setIfInBounds_toArray,List.set_cons_zero,List.set_cons_succ,i64_w,i32_w]
                           rfl
                          refine pure_ (i:=1) (N:=some 55) (v:=?_) (a':=?_) #[true,true,false,false,false,false,false,false,false,false,false,false,false,false,false,false,false,false,false,false,false,false,false,false,false,false,false,false,false] rfl rfl (any_of HT_.out (by kernel_rfl)) (fun _ _ _ h => h) (Or.inl ⟨by rfl,?_⟩) ?_ ?_;rotate_left
                          ·
                           intro w'
                           go_simp
                           with_reducible rfl
                          rotate_left
                          ·
                           simp only [Act.put,List.setIfInBounds_toArray,List.set_cons_zero,List.set_cons_succ,i64_w,i32_w]
                           rfl
                          refine pure_ (i:=2) (N:=some 56) (v:=?_) (a':=?_) #[true,true,true,false,false,false,false,false,false,false,false,false,false,false,false,false,false,false,false,false,false,false,false,false,false,false,false,false,false] rfl rfl (any_of HT_.out (by kernel_rfl)) (fun _ _ _ h => h) (Or.inl ⟨by rfl,?_⟩) ?_ ?_;rotate_left
                          ·
                           intro w'
                           go_simp
                           with_reducible rfl
                          rotate_left
                          ·
                           simp only [Act.put,List.setIfInBounds_toArray,List.set_cons_zero,List.set_cons_succ,i64_w,i32_w]
                           rfl
                          refine pure_ (i:=4) (N:=some 58) (v:=?_) (a':=?_) #[true,true,true,false,true,false,false,false,false,false,false,false,false,false,false,false,false,false,false,false,false,false,false,false,false,false,false,false,false] rfl rfl (any_of HT_.out (by kernel_rfl)) (fun _ _ _ h => h) (Or.inl ⟨by rfl,?_⟩) ?_ ?_;rotate_left
                          ·
                           intro w'
                           go_simp
                           with_reducible rfl
                          rotate_left
                          ·
                           simp only [Act.put,List.setIfInBounds_toArray,List.set_cons_zero,List.set_cons_succ,i64_w,i32_w]
                           rfl
                          refine pure_ (i:=5) (N:=some 59) (v:=?_) (a':=?_) #[true,true,true,false,true,true,false,false,false,false,false,false,false,false,false,false,false,false,false,false,false,false,false,false,false,false,false,false,false] rfl rfl (any_of HT_.out (by kernel_rfl)) (fun _ _ _ h => h) (Or.inl ⟨by rfl,?_⟩) ?_ ?_;rotate_left
                          ·
                           intro w'
                           go_simp
                           with_reducible rfl
                          rotate_left
                          ·
                           simp only [Act.put,List.setIfInBounds_toArray,List.set_cons_zero,List.set_cons_succ,i64_w,i32_w]
                           rfl
                          refine pure_ (i:=6) (N:=some 60) (v:=?_) (a':=?_) #[true,true,true,false,true,true,true,false,false,false,false,false,false,false,false,false,false,false,false,false,false,false,false,false,false,false,false,false,false] rfl rfl (any_of HT_.out (by kernel_rfl)) (fun _ _ _ h => h) (Or.inl ⟨by rfl,?_⟩) ?_ ?_;rotate_left
                          ·
                           intro w'
                           go_simp
                           with_reducible rfl
                          rotate_left
                          ·
                           simp only [Act.put,List.setIfInBounds_toArray,List.set_cons_zero,List.set_cons_succ,i64_w,i32_w]
                           rfl
                          refine pure_ (i:=7) (N:=some 61) (v:=?_) (a':=?_) #[true,true,true,false,true,true,true,true,false,false,false,false,false,false,false,false,false,false,false,false,false,false,false,false,false,false,false,false,false] rfl rfl (any_of HT_.out (by kernel_rfl)) (fun _ _ _ h => h) (Or.inl ⟨by rfl,?_⟩) ?_ ?_;rotate_left
                          ·
                           intro w'
                           go_simp
                           with_reducible rfl
                          rotate_left
                          ·
                           simp only [Act.put,List.setIfInBounds_toArray,List.set_cons_zero,List.set_cons_succ,i64_w,i32_w]
                           rfl
                          refine pure_ (i:=8) (N:=some 62) (v:=?_) (a':=?_) #[true,true,true,false,true,true,true,true,true,false,false,false,false,false,false,false,false,false,false,false,false,false,false,false,false,false,false,false,false] rfl rfl (any_of HT_.out (by kernel_rfl)) (fun _ _ _ h => h) (Or.inl ⟨by rfl,?_⟩) ?_ ?_;rotate_left
                          ·
                           intro w'
                           go_simp
                           with_reducible rfl
                          rotate_left
                          ·
                           simp only [Act.put,List.setIfInBounds_toArray,List.set_cons_zero,List.set_cons_succ,i64_w,i32_w]
                           rfl
                          refine pure_ (i:=9) (N:=some 63) (v:=?_) (a':=?_) #[true,true,true,false,true,true,true,true,true,true,false,false,false,false,false,false,false,false,false,false,false,false,false,false,false,false,false,false,false] rfl rfl (any_of HT_.out (by kernel_rfl)) (fun _ _ _ h => h) (Or.inl ⟨by rfl,?_⟩) ?_ ?_;rotate_left
                          ·
                           intro w'
                           go_simp
                           with_reducible rfl
                          rotate_left
                          ·
                           simp only [Act.put,List.setIfInBounds_toArray,List.set_cons_zero,List.set_cons_succ,i64_w,i32_w]
                           rfl
                          refine pure_ (i:=10) (N:=some 64) (v:=?_) (a':=?_) #[true,true,true,false,true,true,true,true,true,true,true,false,false,false,false,false,false,false,false,false,false,false,false,false,false,false,false,false,false] rfl rfl (any_of HT_.out (by kernel_rfl)) (fun _ _ _ h => h) (Or.inl ⟨by rfl,?_⟩) ?_ ?_;rotate_left
                          ·
                           intro w'
                           go_simp
                           with_reducible rfl
                          rotate_left
                          ·
                           simp only [Act.put,List.setIfInBounds_toArray,List.set_cons_zero,List.set_cons_succ,i64_w,i32_w]
                           rfl
                          refine pure_ (i:=11) (N:=some 65) (v:=?_) (a':=?_) #[true,true,true,false,true,true,true,true,true,true,true,true,false,false,false,false,false,false,false,false,false,false,false,false,false,false,false,false,false] rfl rfl (any_of HT_.out (by kernel_rfl)) (fun _ _ _ h => h) (Or.inl ⟨by rfl,?_⟩) ?_ ?_;rotate_left
                          ·
                           intro w'
                           go_simp
                           with_reducible rfl
                          rotate_left
                          ·
                           simp only [Act.put,List.setIfInBounds_toArray,List.set_cons_zero,List.set_cons_succ,i64_w,i32_w]
                           rfl
                          refine pure_ (i:=12) (N:=some 66) (v:=?_) (a':=?_) #[true,true,true,false,true,true,true,true,true,true,true,true,true,false,false,false,false,false,false,false,false,false,false,false,false,false,false,false,false] rfl rfl (any_of HT_.out (by kernel_rfl)) (fun _ _ _ h => h) (Or.inl ⟨by rfl,?_⟩) ?_ ?_;rotate_left
                          ·
                           intro w'
                           go_simp
                           with_reducible rfl
                          rotate_left
                          ·
                           simp only [Act.put,List.setIfInBounds_toArray,List.set_cons_zero,List.set_cons_succ,i64_w,i32_w]
                           rfl
                          refine pure_ (i:=13) (N:=some 67) (v:=?_) (a':=?_) #[true,true,true,false,true,true,true,true,true,true,true,true,true,true,false,false,false,false,false,false,false,false,false,false,false,false,false,false,false] rfl rfl (any_of HT_.out (by kernel_rfl)) (fun _ _ _ h => h) (Or.inl ⟨by rfl,?_⟩) ?_ ?_;rotate_left
                          ·
                           intro w'
                           go_simp
                           with_reducible rfl
                          rotate_left
                          ·
                           simp only [Act.put,List.setIfInBounds_toArray,List.set_cons_zero,List.set_cons_succ,i64_w,i32_w]
                           rfl
                          refine pure_ (i:=14) (N:=some 68) (v:=?_) (a':=?_) #[true,true,true,false,true,true,true,true,true,true,true,true,true,true,true,false,false,false,false,false,false,false,false,false,false,false,false,false,false] rfl rfl (any_of HT_.out (by kernel_rfl)) (fun _ _ _ h => h) (Or.inl ⟨by rfl,?_⟩) ?_ ?_;rotate_left
                          ·
                           intro w'
                           go_simp
                           with_reducible rfl
                          rotate_left
                          ·
                           simp only [Act.put,List.setIfInBounds_toArray,List.set_cons_zero,List.set_cons_succ,i64_w,i32_w]
                           rfl
                          refine pure_ (i:=15) (N:=some 69) (v:=?_) (a':=?_) #[true,true,true,false,true,true,true,true,true,true,true,true,true,true,true,true,false,false,false,false,false,false,false,false,false,false,false,false,false] rfl rfl (any_of HT_.out (by kernel_rfl)) (fun _ _ _ h => h) (Or.inl ⟨by rfl,?_⟩) ?_ ?_;rotate_left
                          ·
                           intro w'
                           go_simp
                           with_reducible rfl
                          rotate_left
                          ·
                           simp only [Act.put,List.setIfInBounds_toArray,List.set_cons_zero,List.set_cons_succ,i64_w,i32_w]
                           rfl
                          refine pure_ (i:=16) (N:=some 70) (v:=?_) (a':=?_) #[true,true,true,false,true,true,true,true,true,true,true,true,true,true,true,true,true,false,false,false,false,false,false,false,false,false,false,false,false] rfl rfl (any_of HT_.out (by kernel_rfl)) (fun _ _ _ h => h) (Or.inl ⟨by rfl,?_⟩) ?_ ?_;rotate_left
                          ·
                           intro w'
                           go_simp
                           with_reducible rfl
                          rotate_left
                          ·
                           simp only [Act.put,List.setIfInBounds_toArray,List.set_cons_zero,List.set_cons_succ,i64_w,i32_w]
                           rfl
                          refine pure_ (i:=17) (N:=some 71) (v:=?_) (a':=?_) #[true,true,true,false,true,true,true,true,true,true,true,true,true,true,true,true,true,true,false,false,false,false,false,false,false,false,false,false,false] rfl rfl (any_of HT_.out (by kernel_rfl)) (fun _ _ _ h => h) (Or.inl ⟨by rfl,?_⟩) ?_ ?_;rotate_left
                          ·
                           intro w'
                           go_simp
                           with_reducible rfl
                          rotate_left
                          ·
                           simp only [Act.put,List.setIfInBounds_toArray,List.set_cons_zero,List.set_cons_succ,i64_w,i32_w]
                           rfl
                          refine pure_ (i:=18) (N:=some 72) (v:=?_) (a':=?_) #[true,true,true,false,true,true,true,true,true,true,true,true,true,true,true,true,true,true,true,false,false,false,false,false,false,false,false,false,false] rfl rfl (any_of HT_.out (by kernel_rfl)) (fun _ _ _ h => h) (Or.inl ⟨by rfl,?_⟩) ?_ ?_;rotate_left
                          ·
                           intro w'
                           go_simp
                           with_reducible rfl
                          rotate_left
                          ·
                           simp only [Act.put,List.setIfInBounds_toArray,List.set_cons_zero,List.set_cons_succ,i64_w,i32_w]
                           rfl
                          refine pure_ (i:=19) (N:=some 73) (v:=?_) (a':=?_) #[true,true,true,false,true,true,true,true,true,true,true,true,true,true,true,true,true,true,true,true,false,false,false,false,false,false,false,false,false] rfl rfl (any_of HT_.out (by kernel_rfl)) (fun _ _ _ h => h) (Or.inl ⟨by rfl,?_⟩) ?_ ?_;rotate_left
                          ·
                           intro w'
                           go_simp
                           with_reducible rfl
                          rotate_left
                          ·
                           simp only [Act.put,List.setIfInBounds_toArray,List.set_cons_zero,List.set_cons_succ,i64_w,i32_w]
                           rfl
                          refine pure_ (i:=20) (N:=some 74) (v:=?_) (a':=?_) #[true,true,true,false,true,true,true,true,true,true,true,true,true,true,true,true,true,true,true,true,true,false,false,false,false,false,false,false,false] rfl rfl (any_of HT_.out (by kernel_rfl)) (fun _ _ _ h => h) (Or.inl ⟨by rfl,?_⟩) ?_ ?_;rotate_left
                          ·
                           intro w'
                           go_simp
                           with_reducible rfl
                          rotate_left
                          ·
                           simp only [Act.put,List.setIfInBounds_toArray,List.set_cons_zero,List.set_cons_succ,i64_w,i32_w]
                           rfl
                          refine pure_ (i:=21) (N:=some 75) (v:=?_) (a':=?_) #[true,true,true,false,true,true,true,true,true,true,true,true,true,true,true,true,true,true,true,true,true,true,false,false,false,false,false,false,false] rfl rfl (any_of HT_.out (by kernel_rfl)) (fun _ _ _ h => h) (Or.inl ⟨by rfl,?_⟩) ?_ ?_;rotate_left
                          ·
                           intro w'
                           go_simp
                           with_reducible rfl
                          rotate_left
                          ·
                           simp only [Act.put,List.setIfInBounds_toArray,List.set_cons_zero,List.set_cons_succ,i64_w,i32_w]
                           rfl
                          refine pure_ (i:=22) (N:=some 76) (v:=?_) (a':=?_) #[true,true,true,false,true,true,true,true,true,true,true,true,true,true,true,true,true,true,true,true,true,true,true,false,false,false,false,false,false] rfl rfl (any_of HT_.out (by kernel_rfl)) (fun _ _ _ h => h) (Or.inl ⟨by rfl,?_⟩) ?_ ?_;rotate_left
                          ·
                           intro w'
                           go_simp
                           with_reducible rfl
                          rotate_left
                          ·
                           simp only [Act.put,List.setIfInBounds_toArray,List.set_cons_zero,List.set_cons_succ,i64_w,i32_w]
                           rfl
                          refine pure_ (i:=23) (N:=some 77) (v:=?_) (a':=?_) #[true,true,true,false,true,true,true,true,true,true,true,true,true,true,true,true,true,true,true,true,true,true,true,true,false,false,false,false,false] rfl rfl (any_of HT_.out (by kernel_rfl)) (fun _ _ _ h => h) (Or.inl ⟨by rfl,?_⟩) ?_ ?_;rotate_left
                          ·
                           intro w'
                           go_simp
                           with_reducible rfl
                          rotate_left
                          ·
                           simp only [Act.put,List.setIfInBounds_toArray,List.set_cons_zero,List.set_cons_succ,i64_w,i32_w]
                           rfl
                          refine pure_ (i:=24) (N:=some 78) (v:=?_) (a':=?_) #[true,true,true,false,true,true,true,true,true,true,true,true,true,true,true,true,true,true,true,true,true,true,true,true,true,false,false,false,false] rfl rfl (any_of HT_.out (by kernel_rfl)) (fun _ _ _ h => h) (Or.inl ⟨by rfl,?_⟩) ?_ ?_;rotate_left
                          ·
                           intro w'
                           go_simp
                           with_reducible rfl
                          rotate_left
                          ·
                           simp only [Act.put,List.setIfInBounds_toArray,List.set_cons_zero,List.set_cons_succ,i64_w,i32_w]
                           rfl
                          refine pure_ (i:=26) (N:=some 80) (v:=?_) (a':=?_) #[true,true,true,false,true,true,true,true,true,true,true,true,true,true,true,true,true,true,true,true,true,true,true,true,true,false,true,false,false] rfl rfl (any_of HT_.out (by kernel_rfl)) (fun _ _ _ h => h) (Or.inl ⟨by rfl,?_⟩) ?_ ?_;rotate_left
                          ·
                           intro w'
                           go_simp
                           with_reducible rfl
                          rotate_left
                          ·
                           simp only [Act.put,List.setIfInBounds_toArray,List.set_cons_zero,List.set_cons_succ,i64_w,i32_w]
                           rfl
                          refine take_ (i:=3) (N:=some 57) (v:=?_) (a':=?_) #[true,true,true,true,true,true,true,true,true,true,true,true,true,true,true,true,true,true,true,true,true,true,true,true,true,false,true,false,false] rfl rfl (take_ofW HT_.out HW_.out (by kernel_rfl)) (fun _ _ _ h => h) (Or.inl ⟨by rfl,?_⟩) hHeld ?_ ?_;rotate_left
                          ·
                           rintro w' ⟨s0,s1,s2⟩
                           go_simp
                           with_reducible rfl
                          rotate_left
                          ·
                           simp only [Act.put,List.setIfInBounds_toArray,List.set_cons_zero,List.set_cons_succ,i64_w,i32_w]
                           rfl
                          refine one_ (i:=25) (N:=some 79) #[true,true,true,true,true,true,true,true,true,true,true,true,true,true,true,true,true,true,true,true,true,true,true,true,true,true,true,false,false] rfl rfl (one_of HT_.out (by kernel_rfl)) (by decide) (fun K hK => ?_)
                          refine goes_ Tryd.func6 (by kernel_rfl) rfl #[.agg #[.slice Ao20 t404.length co20,.slice Ao22 t407.length co22,.slice Ao23 t410.length co23],.string ((((t413.extract 0 ((ji42) : Int).toNat) ++ (t413.extract (x7_1 : Int).toNat ((ji53) : Int).toNat)) ++ (t413.extract ((ji42) : Int).toNat (x7_1 : Int).toNat)) ++ (t413.extract ((ji53) : Int).toNat t413.size))] (by rfl) rfl rfl (by (try simp only [List.map_toArray,List.map_cons,List.map_nil]);first|done|(simp only [hji42,hji53];rfl)|rfl|(simp only [List.length_drop,List.length_take];rfl)) ?_
                          with_reducible refine (impl_SaysYes.calls kj33 _ _ t404 _ _ t407 _ _ t410 ((((t413.extract 0 ((ji42) : Int).toNat) ++ (t413.extract (x7_1 : Int).toNat ((ji53) : Int).toNat)) ++ (t413.extract ((ji42) : Int).toNat (x7_1 : Int).toNat)) ++ (t413.extract ((ji53) : Int).toNat t413.size)) t424 _ ?side1 ?side2 ?side3 ?side4 ?side5 ?side6 A57.out).mono ?_
                          (case side1 => exact cU (Kd.R_reads' HO_415000.out).2.2)
                          (case side2 => exact (Kd.R_reads' HO_415000.out).2.1)
                          (case side3 => exact cU (Kd.R_reads' HO_415001.out).2.2)
                          (case side4 => exact (Kd.R_reads' HO_415001.out).2.1)
                          (case side5 => exact cU (Kd.R_reads' HO_415002.out).2.2)
                          (case side6 => exact (Kd.R_reads' HO_415002.out).2.1)
                          rintro e w60 ⟨rfl,hb⟩
                          refine ⟨_,rfl,?_⟩;have n0_:=Aside0.mk (Kd.R_below (rU HO_415000.out) hb);have n1_:=Aside0.mk (Kd.R_below (rU HO_415001.out) hb);have n2_:=Aside0.mk (Kd.R_below (rU HO_415002.out) hb);have n3_:=Aside0.mk (blk_below (g:=gb414) (o:=.cells #[.slice Ao20 t404.length co20,.slice Ao22 t407.length co22,.slice Ao23 t410.length co23] 25 (0,0)) (blkU BK414.out) hb);have n4_:=Aside0.mk (below_step (by repeat (first|(with_reducible first|exact HB.out|apply below_alloc|apply pw_below_drewN|apply below_drew1|refine below_set ?_ GE414.out)|exact HB.out)) hb);clear HO_415000 HO_415001 HO_415002 BK414 HB;have HO_415000:=n0_;have HO_415001:=n1_;have HO_415002:=n2_;have BK414:=n3_;have HB:=n4_;clear n0_ n1_ n2_ n3_ n4_
                          (try clear hb)
                          (try clear hb2)
                          (try clear hk)
                          (try clear hi)
                          refine hK.out _ _ ⟨(blk_cell BK414.out 0).trans rfl,(blk_cell BK414.out 1).trans rfl,(blk_cell BK414.out 2).trans rfl⟩ (fun hHeld => ?_);clear hK K
                          refine norm_ (a':=?_) ?_ ?_;rotate_left
                          ·
                           show Act.put _ (some 79) _ = _
                           simp only [Act.put,List.setIfInBounds_toArray,List.set_cons_zero,List.set_cons_succ,i64_w,i32_w]
                           rfl
                          refine pure_ (i:=27) (N:=some 81) (v:=?_) (a':=?_) #[true,true,true,true,true,true,true,true,true,true,true,true,true,true,true,true,true,true,true,true,true,true,true,true,true,true,true,true,false] rfl rfl (any_of HT_.out (by kernel_rfl)) (fun _ _ _ h => h) (Or.inl ⟨by rfl,?_⟩) ?_ ?_;rotate_left
                          ·
                           intro w'
                           go_simp
                           with_reducible rfl
                          rotate_left
                          ·
                           simp only [Act.put,List.setIfInBounds_toArray,List.set_cons_zero,List.set_cons_succ,i64_w,i32_w]
                           rfl
                          refine pure_ (i:=28) (N:=some 82) (v:=?_) (a':=?_) #[true,true,true,true,true,true,true,true,true,true,true,true,true,true,true,true,true,true,true,true,true,true,true,true,true,true,true,true,true] rfl rfl (any_of HT_.out (by kernel_rfl)) (fun _ _ _ h => h) (Or.inl ⟨by rfl,?_⟩) ?_ ?_;rotate_left
                          ·
                           intro w'
                           go_simp
                           with_reducible rfl
                          rotate_left
                          ·
                           simp only [Act.put,List.setIfInBounds_toArray,List.set_cons_zero,List.set_cons_succ,i64_w,i32_w]
                           rfl
                          refine done_ (done_of HT_.out (by kernel_rfl)) ?_
                          try go_wp2
                          go_ret
                          exact ⟨by first|rfl|(simp [errW_none,errW_some] <;> rfl)|(simp only [← hji42,← hji53];first|rfl|(simp [errW_none,errW_some] <;> rfl))|(simp [*,errW_none,errW_some] <;> rfl),by repeat (first|(with_reducible first|exact HB.out|apply below_alloc|apply pw_below_drewN|apply below_drew1|refine below_set ?_ GE414.out)|exact HB.out)⟩
                         ·
                          rw [if_neg c58] at H
                          have c58b0 : (t424 != t415) = false:=by simpa using c58
                          (try (have c58b1 : decide (t424 = t415) = true:=by simpa using c58))
                          (try (have c58b2 : (t424 == t415) = true:=by simpa using c58));clear c58
                          have H':=Aside0.mk H;clear H
                          try go_wp2
                          have n0_:=Aside0.mk (Kd.R_drew HO_415000.out);have n1_:=Aside0.mk (Kd.R_drew HO_415001.out);have n2_:=Aside0.mk (Kd.R_drew HO_415002.out);have n3_:=Aside0.mk (blk_drew BK414.out);have n4_:=Aside0.mk (below_drew1 HB.out);clear HO_415000 HO_415001 HO_415002 BK414 HB;have HO_415000:=n0_;have HO_415001:=n1_;have HO_415002:=n2_;have BK414:=n3_;have HB:=n4_;clear n0_ n1_ n2_ n3_ n4_
                          refine start_ (n:=29) (S:=fun w' => w'.cell? ⟨gb414,0,none⟩ = some (.slice Ao20 t404.length co20) ∧ w'.cell? ⟨gb414,1,none⟩ = some (.slice Ao22 t407.length co22) ∧ w'.cell? ⟨gb414,2,none⟩ = some (.slice Ao23 t410.length co23)) (ds:=[]) #[false,false,false,false,false,false,false,false,false,false,false,false,false,false,false,false,false,false,false,false,false,false,false,false,false,false,false,false,false] (by kernel_rfl) rfl rfl ⟨(blk_cell BK414.out 0).trans rfl,(blk_cell BK414.out 1).trans rfl,(blk_cell BK414.out 2).trans rfl⟩ (fun hHeld => ?_);refine with_tabW laws_FnSaysYes.tab17 laws_FnSaysYes.bits17 (fun HT_ HW_ => ?_)
                          generalize wc.drew = w61 at HO_415000 HO_415001 HO_415002 BK414 HB hHeld ⊢
                          refine pure_ (i:=0) (N:=some 54) (v:=?_) (a':=?_) #[true,false,false,false,false,false,false,false,false,false,false,false,false,false,false,false,false,false,false,false,false,false,false,false,false,false,false,false,false] rfl rfl (any_of HT_.out (by kernel_rfl)) (fun _ _ _ h => h) (Or.inl ⟨by rfl,?_⟩) ?_ ?_;rotate_left
                          ·
                           intro w'
                           go_simp
                           with_reducible rfl
                          rotate_left
                          ·
                           simp only [Act.put,List.setIfInBounds_toArray,List.set_cons_zero,List.set_cons_succ,i64_w,i32_w]
                           rfl
                          refine pure_ (i:=1) (N:=some 55) (v:=?_) (a':=?_) #[true,true,false,false,false,false,false,false,false,false,false,false,false,false,false,false,false,false,false,false,false,false,false,false,false,false,false,false,false] rfl rfl (any_of HT_.out (by kernel_rfl)) (fun _ _ _ h => h) (Or.inl ⟨by rfl,?_⟩) ?_ ?_;rotate_left
                          ·
                           intro w'
                           go_simp
                           with_reducible rfl
                          rotate_left
                          ·
                           simp only [Act.put,List.setIfInBounds_toArray,List.set_cons_zero,List.set_cons_succ,i64_w,i32_w]
                           rfl
                          refine pure_ (i:=2) (N:=some 56) (v:=?_) (a':=?_) #[true,true,true,false,false,false,false,false,false,false,false,false,false,false,false,false,false,false,false,false,false,false,false,false,false,false,false,false,false] rfl rfl (any_of HT_.out (by kernel_rfl)) (fun _ _ _ h => h) (Or.inl ⟨by rfl,?_⟩) ?_ ?_;rotate_left
                          ·
                           intro w'
                           go_simp
                           with_reducible rfl
                          rotate_left
                          ·
                           simp only [Act.put,List.setIfInBounds_toArray,List.set_cons_zero,List.set_cons_succ,i64_w,i32_w]
                           rfl
                          refine pure_ (i:=4) (N:=some 58) (v:=?_) (a':=?_) #[true,true,true,false,true,false,false,false,false,false,false,false,false,false,false,false,false,false,false,false,false,false,false,false,false,false,false,false,false] rfl rfl (any_of HT_.out (by kernel_rfl)) (fun _ _ _ h => h) (Or.inl ⟨by rfl,?_⟩) ?_ ?_;rotate_left
                          ·
                           intro w'
                           go_simp
                           with_reducible rfl
                          rotate_left
                          ·
                           simp only [Act.put,List.setIfInBounds_toArray,List.set_cons_zero,List.set_cons_succ,i64_w,i32_w]
                           rfl
                          refine pure_ (i:=5) (N:=some 59) (v:=?_) (a':=?_) #[true,true,true,false,true,true,false,false,false,false,false,false,false,false,false,false,false,false,false,false,false,false,false,false,false,false,false,false,false] rfl rfl (any_of HT_.out (by kernel_rfl)) (fun _ _ _ h => h) (Or.inl ⟨by rfl,?_⟩) ?_ ?_;rotate_left
                          ·
                           intro w'
                           go_simp
                           with_reducible rfl
                          rotate_left
                          ·
                           simp only [Act.put,List.setIfInBounds_toArray,List.set_cons_zero,List.set_cons_succ,i64_w,i32_w]
                           rfl
                          refine pure_ (i:=6) (N:=some 60) (v:=?_) (a':=?_) #[true,true,true,false,true,true,true,false,false,false,false,false,false,false,false,false,false,false,false,false,false,false,false,false,false,false,false,false,false] rfl rfl (any_of HT_.out (by kernel_rfl)) (fun _ _ _ h => h) (Or.inl ⟨by rfl,?_⟩) ?_ ?_;rotate_left
                          ·
                           intro w'
                           go_simp
                           with_reducible rfl
                          rotate_left
                          ·
                           simp only [Act.put,List.setIfInBounds_toArray,List.set_cons_zero,List.set_cons_succ,i64_w,i32_w]
                           rfl
                          refine pure_ (i:=7) (N:=some 61) (v:=?_) (a':=?_) #[true,true,true,false,true,true,true,true,false,false,false,false,false,false,false,false,false,false,false,false,false,false,false,false,false,false,false,false,false] rfl rfl (any_of HT_.out (by kernel_rfl)) (fun _ _ _ h => h) (Or.inl ⟨by rfl,?_⟩) ?_ ?_;rotate_left
                          ·
                           intro w'
                           go_simp
                           with_reducible rfl
                          rotate_left
                          ·
                           simp only [Act.put,List.setIfInBounds_toArray,List.set_cons_zero,List.set_cons_succ,i64_w,i32_w]
                           rfl
                          refine pure_ (i:=8) (N:=some 62) (v:=?_) (a':=?_) #[true,true,true,false,true,true,true,true,true,false,false,false,false,false,false,false,false,false,false,false,false,false,false,false,false,false,false,false,false] rfl rfl (any_of HT_.out (by kernel_rfl)) (fun _ _ _ h => h) (Or.inl ⟨by rfl,?_⟩) ?_ ?_;rotate_left
                          ·
                           intro w'
                           go_simp
                           with_reducible rfl
                          rotate_left
                          ·
                           simp only [Act.put,List.setIfInBounds_toArray,List.set_cons_zero,List.set_cons_succ,i64_w,i32_w]
                           rfl
                          refine pure_ (i:=9) (N:=some 63) (v:=?_) (a':=?_) #[true,true,true,false,true,true,true,true,true,true,false,false,false,false,false,false,false,false,false,false,false,false,false,false,false,false,false,false,false] rfl rfl (any_of HT_.out (by kernel_rfl)) (fun _ _ _ h => h) (Or.inl ⟨by rfl,?_⟩) ?_ ?_;rotate_left
                          ·
                           intro w'
                           go_simp
                           with_reducible rfl
                          rotate_left
                          ·
                           simp only [Act.put,List.setIfInBounds_toArray,List.set_cons_zero,List.set_cons_succ,i64_w,i32_w]
                           rfl
                          refine pure_ (i:=10) (N:=some 64) (v:=?_) (a':=?_) #[true,true,true,false,true,true,true,true,true,true,true,false,false,false,false,false,false,false,false,false,false,false,false,false,false,false,false,false,false] rfl rfl (any_of HT_.out (by kernel_rfl)) (fun _ _ _ h => h) (Or.inl ⟨by rfl,?_⟩) ?_ ?_;rotate_left
                          ·
                           intro w'
                           go_simp
                           with_reducible rfl
                          rotate_left
                          ·
                           simp only [Act.put,List.setIfInBounds_toArray,List.set_cons_zero,List.set_cons_succ,i64_w,i32_w]
                           rfl
                          refine pure_ (i:=11) (N:=some 65) (v:=?_) (a':=?_) #[true,true,true,false,true,true,true,true,true,true,true,true,false,false,false,false,false,false,false,false,false,false,false,false,false,false,false,false,false] rfl rfl (any_of HT_.out (by kernel_rfl)) (fun _ _ _ h => h) (Or.inl ⟨by rfl,?_⟩) ?_ ?_;rotate_left
                          ·
                           intro w'
                           go_simp
                           with_reducible rfl
                          rotate_left
                          ·
                           simp only [Act.put,List.setIfInBounds_toArray,List.set_cons_zero,List.set_cons_succ,i64_w,i32_w]
                           rfl
                          refine pure_ (i:=12) (N:=some 66) (v:=?_) (a':=?_) #[true,true,true,false,true,true,true,true,true,true,true,true,true,false,false,false,false,false,false,false,false,false,false,false,false,false,false,false,false] rfl rfl (any_of HT_.out (by kernel_rfl)) (fun _ _ _ h => h) (Or.inl ⟨by rfl,?_⟩) ?_ ?_;rotate_left
                          ·
                           intro w'
                           go_simp
                           with_reducible rfl
                          rotate_left
                          ·
                           simp only [Act.put,List.setIfInBounds_toArray,List.set_cons_zero,List.set_cons_succ,i64_w,i32_w]
                           rfl
                          refine pure_ (i:=13) (N:=some 67) (v:=?_) (a':=?_) #[true,true,true,false,true,true,true,true,true,true,true,true,true,true,false,false,false,false,false,false,false,false,false,false,false,false,false,false,false] rfl rfl (any_of HT_.out (by kernel_rfl)) (fun _ _ _ h => h) (Or.inl ⟨by rfl,?_⟩) ?_ ?_;rotate_left
                          ·
                           intro w'
                           go_simp
                           with_reducible rfl
                          rotate_left
                          ·
                           simp only [Act.put,List.setIfInBounds_toArray,List.set_cons_zero,List.set_cons_succ,i64_w,i32_w]
                           rfl
                          refine pure_ (i:=14) (N:=some 68) (v:=?_) (a':=?_) #[true,true,true,false,true,true,true,true,true,true,true,true,true,true,true,false,false,false,false,false,false,false,false,false,false,false,false,false,false] rfl rfl (any_of HT_.out (by kernel_rfl)) (fun _ _ _ h => h) (Or.inl ⟨by rfl,?_⟩) ?_ ?_;rotate_left
                          ·
                           intro w'
                           go_simp
                           with_reducible rfl
                          rotate_left
                          ·
                           simp only [Act.put,List.setIfInBounds_toArray,List.set_cons_zero,List.set_cons_succ,i64_w,i32_w]
                           rfl
                          refine pure_ (i:=15) (N:=some 69) (v:=?_) (a':=?_) #[true,true,true,false,true,true,true,true,true,true,true,true,true,true,true,true,false,false,false,false,false,false,false,false,false,false,false,false,false] rfl rfl (any_of HT_.out (by kernel_rfl)) (fun _ _ _ h => h) (Or.inl ⟨by rfl,?_⟩) ?_ ?_;rotate_left
                          ·
                           intro w'
                           go_simp
                           with_reducible rfl
                          rotate_left
                          ·
                           simp only [Act.put,List.setIfInBounds_toArray,List.set_cons_zero,List.set_cons_succ,i64_w,i32_w]
                           rfl
                          refine pure_ (i:=16) (N:=some 70) (v:=?_) (a':=?_) #[true,true,true,false,true,true,true,true,true,true,true,true,true,true,true,true,true,false,false,false,false,false,false,false,false,false,false,false,false] rfl rfl (any_of HT_.out (by kernel_rfl)) (fun _ _ _ h => h) (Or.inl ⟨by rfl,?_⟩) ?_ ?_;rotate_left
                          ·
                           intro w'
                           go_simp
                           with_reducible rfl
                          rotate_left
                          ·
                           simp only [Act.put,List.setIfInBounds_toArray,List.set_cons_zero,List.set_cons_succ,i64_w,i32_w]
                           rfl
                          refine pure_ (i:=17) (N:=some 71) (v:=?_) (a':=?_) #[true,true,true,false,true,true,true,true,true,true,true,true,true,true,true,true,true,true,false,false,false,false,false,false,false,false,false,false,false] rfl rfl (any_of HT_.out (by kernel_rfl)) (fun _ _ _ h => h) (Or.inl ⟨by rfl,?_⟩) ?_ ?_;rotate_left
                          ·
                           intro w'
                           go_simp
                           with_reducible rfl
                          rotate_left
                          ·
                           simp only [Act.put,List.setIfInBounds_toArray,List.set_cons_zero,List.set_cons_succ,i64_w,i32_w]
                           rfl
                          refine pure_ (i:=18) (N:=some 72) (v:=?_) (a':=?_) #[true,true,true,false,true,true,true,true,true,true,true,true,true,true,true,true,true,true,true,false,false,false,false,false,false,false,false,false,false] rfl rfl (any_of HT_.out (by kernel_rfl)) (fun _ _ _ h => h) (Or.inl ⟨by rfl,?_⟩) ?_ ?_;rotate_left
                          ·
                           intro w'
                           go_simp
                           with_reducible rfl
                          rotate_left
                          ·
                           simp only [Act.put,List.setIfInBounds_toArray,List.set_cons_zero,List.set_cons_succ,i64_w,i32_w]
                           rfl
                          refine pure_ (i:=19) (N:=some 73) (v:=?_) (a':=?_) #[true,true,true,false,true,true,true,true,true,true,true,true,true,true,true,true,true,true,true,true,false,false,false,false,false,false,false,false,false] rfl rfl (any_of HT_.out (by kernel_rfl)) (fun _ _ _ h => h) (Or.inl ⟨by rfl,?_⟩) ?_ ?_;rotate_left
                          ·
                           intro w'
                           go_simp
                           with_reducible rfl
                          rotate_left
                          ·
                           simp only [Act.put,List.setIfInBounds_toArray,List.set_cons_zero,List.set_cons_succ,i64_w,i32_w]
                           rfl
                          refine pure_ (i:=20) (N:=some 74) (v:=?_) (a':=?_) #[true,true,true,false,true,true,true,true,true,true,true,true,true,true,true,true,true,true,true,true,true,false,false,false,false,false,false,false,false] rfl rfl (any_of HT_.out (by kernel_rfl)) (fun _ _ _ h => h) (Or.inl ⟨by rfl,?_⟩) ?_ ?_;rotate_left
                          ·
                           intro w'
                           go_simp
                           with_reducible rfl
                          rotate_left
                          ·
                           simp only [Act.put,List.setIfInBounds_toArray,List.set_cons_zero,List.set_cons_succ,i64_w,i32_w]
                           rfl
                          refine pure_ (i:=21) (N:=some 75) (v:=?_) (a':=?_) #[true,true,true,false,true,true,true,true,true,true,true,true,true,true,true,true,true,true,true,true,true,true,false,false,false,false,false,false,false] rfl rfl (any_of HT_.out (by kernel_rfl)) (fun _ _ _ h => h) (Or.inl ⟨by rfl,?_⟩) ?_ ?_;rotate_left
                          ·
                           intro w'
                           go_simp
                           with_reducible rfl
                          rotate_left
                          ·
                           simp only [Act.put,List.setIfInBounds_toArray,List.set_cons_zero,List.set_cons_succ,i64_w,i32_w]
                           rfl
                          refine pure_ (i:=22) (N:=some 76) (v:=?_) (a':=?_) #[true,true,true,false,true,true,true,true,true,true,true,true,true,true,true,true,true,true,true,true,true,true,true,false,false,false,false,false,false] rfl rfl (any_of HT_.out (by kernel_rfl)) (fun _ _ _ h => h) (Or.inl ⟨by rfl,?_⟩) ?_ ?_;rotate_left
                          ·
                           intro w'
                           go_simp
                           with_reducible rfl
                          rotate_left
                          ·
                           simp only [Act.put,List.setIfInBounds_toArray,List.set_cons_zero,List.set_cons_succ,i64_w,i32_w]
                           rfl
                          refine pure_ (i:=23) (N:=some 77) (v:=?_) (a':=?_) #[true,true,true,false,true,true,true,true,true,true,true,true,true,true,true,true,true,true,true,true,true,true,true,true,false,false,false,false,false] rfl rfl (any_of HT_.out (by kernel_rfl)) (fun _ _ _ h => h) (Or.inl ⟨by rfl,?_⟩) ?_ ?_;rotate_left
                          ·
                           intro w'
                           go_simp
                           with_reducible rfl
                          rotate_left
                          ·
                           simp only [Act.put,List.setIfInBounds_toArray,List.set_cons_zero,List.set_cons_succ,i64_w,i32_w]
                           rfl
                          refine pure_ (i:=24) (N:=some 78) (v:=?_) (a':=?_) #[true,true,true,false,true,true,true,true,true,true,true,true,true,true,true,true,true,true,true,true,true,true,true,true,true,false,false,false,false] rfl rfl (any_of HT_.out (by kernel_rfl)) (fun _ _ _ h => h) (Or.inl ⟨by rfl,?_⟩) ?_ ?_;rotate_left
                          ·
                           intro w'
                           go_simp
                           with_reducible rfl
                          rotate_left
                          ·
                           simp only [Act.put,List.setIfInBounds_toArray,List.set_cons_zero,List.set_cons_succ,i64_w,i32_w]
                           rfl
                          refine pure_ (i:=26) (N:=some 80) (v:=?_) (a':=?_) #[true,true,true,false,true,true,true,true,true,true,true,true,true,true,true,true,true,true,true,true,true,true,true,true,true,false,true,false,false] rfl rfl (any_of HT_.out (by kernel_rfl)) (fun _ _ _ h => h) (Or.inl ⟨by rfl,?_⟩) ?_ ?_;rotate_left
                          ·
                           intro w'
                           go_simp
                           with_reducible rfl
                          rotate_left
                          ·
                           simp only [Act.put,List.setIfInBounds_toArray,List.set_cons_zero,List.set_cons_succ,i64_w,i32_w]
                           rfl
                          refine take_ (i:=3) (N:=some 57) (v:=?_) (a':=?_) #[true,true,true,true,true,true,true,true,true,true,true,true,true,true,true,true,true,true,true,true,true,true,true,true,true,false,true,false,false] rfl rfl (take_ofW HT_.out HW_.out (by kernel_rfl)) (fun _ _ _ h => h) (Or.inl ⟨by rfl,?_⟩) hHeld ?_ ?_;rotate_left
                          ·
                           rintro w' ⟨s0,s1,s2⟩
                           go_simp
                           with_reducible rfl
                          rotate_left
                          ·
                           simp only [Act.put,List.setIfInBounds_toArray,List.set_cons_zero,List.set_cons_succ,i64_w,i32_w]
                           rfl
                          refine one_ (i:=25) (N:=some 79) #[true,true,true,true,true,true,true,true,true,true,true,true,true,true,true,true,true,true,true,true,true,true,true,true,true,true,true,false,false] rfl rfl (one_of HT_.out (by kernel_rfl)) (by decide) (fun K hK => ?_)
                          refine goes_ Tryd.func6 (by kernel_rfl) rfl #[.agg #[.slice Ao20 t404.length co20,.slice Ao22 t407.length co22,.slice Ao23 t410.length co23],.string ((((t413.extract 0 ((ji42) : Int).toNat) ++ (t413.extract (x7_1 : Int).toNat ((ji53) : Int).toNat)) ++ (t413.extract ((ji42) : Int).toNat (x7_1 : Int).toNat)) ++ (t413.extract ((ji53) : Int).toNat t413.size))] (by rfl) rfl rfl (by (try simp only [List.map_toArray,List.map_cons,List.map_nil]);first|done|(simp only [hji42,hji53];rfl)|rfl|(simp only [List.length_drop,List.length_take];rfl)) ?_
                          with_reducible refine (impl_SaysYes.calls kj33 _ _ t404 _ _ t407 _ _ t410 ((((t413.extract 0 ((ji42) : Int).toNat) ++ (t413.extract (x7_1 : Int).toNat ((ji53) : Int).toNat)) ++ (t413.extract ((ji42) : Int).toNat (x7_1 : Int).toNat)) ++ (t413.extract ((ji53) : Int).toNat t413.size)) t424 _ ?side1 ?side2 ?side3 ?side4 ?side5 ?side6 A57.out).mono ?_
                          (case side1 => exact cU (Kd.R_reads' HO_415000.out).2.2)
                          (case side2 => exact (Kd.R_reads' HO_415000.out).2.1)
                          (case side3 => exact cU (Kd.R_reads' HO_415001.out).2.2)
                          (case side4 => exact (Kd.R_reads' HO_415001.out).2.1)
                          (case side5 => exact cU (Kd.R_reads' HO_415002.out).2.2)
                          (case side6 => exact (Kd.R_reads' HO_415002.out).2.1)
                          rintro e w62 ⟨rfl,hb⟩
                          refine ⟨_,rfl,?_⟩;have n0_:=Aside0.mk (Kd.R_below (rU HO_415000.out) hb);have n1_:=Aside0.mk (Kd.R_below (rU HO_415001.out) hb);have n2_:=Aside0.mk (Kd.R_below (rU HO_415002.out) hb);have n3_:=Aside0.mk (blk_below (g:=gb414) (o:=.cells #[.slice Ao20 t404.length co20,.slice Ao22 t407.length co22,.slice Ao23 t410.length co23] 25 (0,0)) (blkU BK414.out) hb);have n4_:=Aside0.mk (below_step (by repeat (first|(with_reducible first|exact HB.out|apply below_alloc|apply pw_below_drewN|apply below_drew1|refine below_set ?_ GE414.out)|exact HB.out)) hb);clear HO_415000 HO_415001 HO_415002 BK414 HB;have HO_415000:=n0_;have HO_415001:=n1_;have HO_415002:=n2_;have BK414:=n3_;have HB:=n4_;clear n0_ n1_ n2_ n3_ n4_
                          (try clear hb)
                          (try clear hb2)
                          (try clear hk)
                          (try clear hi)
                          refine hK.out _ _ ⟨(blk_cell BK414.out 0).trans rfl,(blk_cell BK414.out 1).trans rfl,(blk_cell BK414.out 2).trans rfl⟩ (fun hHeld => ?_);clear hK K
                          refine norm_ (a':=?_) ?_ ?_;rotate_left
                          ·
                           show Act.put _ (some 79) _ = _
                           simp only [Act.put,List.setIfInBounds_toArray,List.set_cons_zero,List.set_cons_succ,i64_w,i32_w]
                           rfl
                          refine pure_ (i:=27) (N:=some 81) (v:=?_) (a':=?_) #[true,true,true,true,true,true,true,true,true,true,true,true,true,true,true,true,true,true,true,true,true,true,true,true,true,true,true,true,false] rfl rfl (any_of HT_.out (by kernel_rfl)) (fun _ _ _ h => h) (Or.inl ⟨by rfl,?_⟩) ?_ ?_;rotate_left
                          ·
                           intro w'
                           go_simp
                           with_reducible rfl
                          rotate_left
                          ·
                           simp only [Act.put,List.setIfInBounds_toArray,List.set_cons_zero,List.set_cons_succ,i64_w,i32_w]
                           rfl
                          refine pure_ (i:=28) (N:=some 82) (v:=?_) (a':=?_) #[true,true,true,true,true,true,true,true,true,true,true,true,true,true,true,true,true,true,true,true,true,true,true,true,true,true,true,true,true] rfl rfl (any_of HT_.out (by kernel_rfl)) (fun _ _ _ h => h) (Or.inl ⟨by rfl,?_⟩) ?_ ?_;rotate_left
                          ·
                           intro w'
                           go_simp
                           with_reducible rfl
                          rotate_left
                          ·
                           simp only [Act.put,List.setIfInBounds_toArray,List.set_cons_zero,List.set_cons_succ,i64_w,i32_w]
                           rfl
                          refine done_ (done_of HT_.out (by kernel_rfl)) ?_
                          try go_wp2
                          go_roundg kj33
                          case measure => have:=HK1.out;have:=HJ31.out;have:=HJ33.out;omega
                          case rel => exact ⟨(x6_31),(ji53),(by first|rfl|(simp;done)|(simp [*];done)),(by first|rfl|(simp;done)|(simp only [← hji53] <;> (first|rfl|simp))|(simp [*];done)),H',⟨by have:=HK1.out;have:=HJ31.out;have:=HJ33.out;omega⟩,⟨rU HO_415000.out⟩,⟨rU HO_415001.out⟩,⟨rU HO_415002.out⟩,⟨blkU BK414.out⟩,⟨by repeat (first|(with_reducible first|exact HB.out|apply below_alloc|apply pw_below_drewN|apply below_drew1|refine below_set ?_ GE414.out)|exact HB.out)⟩⟩
                        ·
                         rw [if_neg c56] at H
                         exact absurd H (by simp)
                       ·
                        rw [if_neg c54] at H
                        exact absurd H (by simp)
                      ·
                       rw [if_neg c52] at H
                       exact absurd H (by simp)
                     ·
                      rw [if_neg c51] at H
                      exact absurd H (by simp)
                    ·
                     rw [if_neg c50] at H
                     exact absurd H (by simp)
                   ·
                    rw [if_neg c48] at H
                    exact absurd H (by simp)
                  ·
                   rw [if_neg c47] at H
                   exact absurd H (by simp)
                 ·
                  rw [if_neg c46] at H
                  exact absurd H (by simp)
                ·
                 rw [if_neg c45] at H
                 exact absurd H (by simp)
               ·
                rw [if_neg c44] at H
                exact absurd H (by simp)
              ·
               rw [if_neg c43] at H
               exact absurd H (by simp)
             ·
              rw [if_neg c41] at H
              have c41b0 : decide (0 < x7_1) = false:=decide_eq_false c41;clear c41
              have H':=Aside0.mk H;clear H
              try go_wp2
              have n0_:=Aside0.mk (Kd.R_drew HO_415000.out);have n1_:=Aside0.mk (Kd.R_drew HO_415001.out);have n2_:=Aside0.mk (Kd.R_drew HO_415002.out);have n3_:=Aside0.mk (blk_drew BK414.out);have n4_:=Aside0.mk (below_drew1 HB.out);clear HO_415000 HO_415001 HO_415002 BK414 HB;have HO_415000:=n0_;have HO_415001:=n1_;have HO_415002:=n2_;have BK414:=n3_;have HB:=n4_;clear n0_ n1_ n2_ n3_ n4_
              refine start_ (n:=29) (S:=fun w' => True) (ds:=[]) #[false,false,false,false,false,false,false,false,false,false,false,false,false,false,false,false,false,false,false,false,false,false,false,false,false,false,false,false,false] (by kernel_rfl) rfl rfl trivial (fun hHeld => ?_);refine with_tabW laws_FnSaysYes.tab17 laws_FnSaysYes.bits17 (fun HT_ HW_ => ?_)
              generalize wc.drew = w63 at HO_415000 HO_415001 HO_415002 BK414 HB hHeld ⊢
              refine pure_ (i:=0) (N:=some 54) (v:=?_) (a':=?_) #[true,false,false,false,false,false,false,false,false,false,false,false,false,false,false,false,false,false,false,false,false,false,false,false,false,false,false,false,false] rfl rfl (any_of HT_.out (by kernel_rfl)) (fun _ _ _ h => h) (Or.inl ⟨by rfl,?_⟩) ?_ ?_;rotate_left
              ·
               intro w'
               go_simp
               with_reducible rfl
              rotate_left
              ·
               simp only [Act.put,List.setIfInBounds_toArray,List.set_cons_zero,List.set_cons_succ,i64_w,i32_w]
               rfl
              refine pure_ (i:=1) (N:=some 55) (v:=?_) (a':=?_) #[true,true,false,false,false,false,false,false,false,false,false,false,false,false,false,false,false,false,false,false,false,false,false,false,false,false,false,false,false] rfl rfl (any_of HT_.out (by kernel_rfl)) (fun _ _ _ h => h) (Or.inl ⟨by rfl,?_⟩) ?_ ?_;rotate_left
              ·
               intro w'
               go_simp
               with_reducible rfl
              rotate_left
              ·
               simp only [Act.put,List.setIfInBounds_toArray,List.set_cons_zero,List.set_cons_succ,i64_w,i32_w]
               rfl
              refine pure_ (i:=2) (N:=some 56) (v:=?_) (a':=?_) #[true,true,true,false,false,false,false,false,false,false,false,false,false,false,false,false,false,false,false,false,false,false,false,false,false,false,false,false,false] rfl rfl (any_of HT_.out (by kernel_rfl)) (fun _ _ _ h => h) (Or.inl ⟨by rfl,?_⟩) ?_ ?_;rotate_left
              ·
               intro w'
               go_simp
               with_reducible rfl
              rotate_left
              ·
               simp only [Act.put,List.setIfInBounds_toArray,List.set_cons_zero,List.set_cons_succ,i64_w,i32_w]
               rfl
              refine pure_ (i:=3) (N:=some 57) (v:=undef) (a':=?_) #[true,true,true,true,false,false,false,false,false,false,false,false,false,false,false,false,false,false,false,false,false,false,false,false,false,false,false,false,false] rfl rfl (any_of HT_.out (by kernel_rfl)) (fun _ _ _ h => h) (Or.inr ⟨by rfl,rfl⟩) ?_ ?_;rotate_left
              ·
               simp only [Act.put,List.setIfInBounds_toArray,List.set_cons_zero,List.set_cons_succ,i64_w,i32_w]
               rfl
              refine pure_ (i:=4) (N:=some 58) (v:=undef) (a':=?_) #[true,true,true,true,true,false,false,false,false,false,false,false,false,false,false,false,false,false,false,false,false,false,false,false,false,false,false,false,false] rfl rfl (any_of HT_.out (by kernel_rfl)) (fun _ _ _ h => h) (Or.inr ⟨by rfl,rfl⟩) ?_ ?_;rotate_left
              ·
               simp only [Act.put,List.setIfInBounds_toArray,List.set_cons_zero,List.set_cons_succ,i64_w,i32_w]
               rfl
              refine pure_ (i:=5) (N:=some 59) (v:=undef) (a':=?_) #[true,true,true,true,true,true,false,false,false,false,false,false,false,false,false,false,false,false,false,false,false,false,false,false,false,false,false,false,false] rfl rfl (any_of HT_.out (by kernel_rfl)) (fun _ _ _ h => h) (Or.inr ⟨by rfl,rfl⟩) ?_ ?_;rotate_left
              ·
               simp only [Act.put,List.setIfInBounds_toArray,List.set_cons_zero,List.set_cons_succ,i64_w,i32_w]
               rfl
              refine pure_ (i:=6) (N:=some 60) (v:=undef) (a':=?_) #[true,true,true,true,true,true,true,false,false,false,false,false,false,false,false,false,false,false,false,false,false,false,false,false,false,false,false,false,false] rfl rfl (any_of HT_.out (by kernel_rfl)) (fun _ _ _ h => h) (Or.inr ⟨by rfl,rfl⟩) ?_ ?_;rotate_left
              ·
               simp only [Act.put,List.setIfInBounds_toArray,List.set_cons_zero,List.set_cons_succ,i64_w,i32_w]
               rfl
              refine pure_ (i:=7) (N:=some 61) (v:=undef) (a':=?_) #[true,true,true,true,true,true,true,true,false,false,false,false,false,false,false,false,false,false,false,false,false,false,false,false,false,false,false,false,false] rfl rfl (any_of HT_.out (by kernel_rfl)) (fun _ _ _ h => h) (Or.inr ⟨by rfl,rfl⟩) ?_ ?_;rotate_left
              ·
               simp only [Act.put,List.setIfInBounds_toArray,List.set_cons_zero,List.set_cons_succ,i64_w,i32_w]
               rfl
              refine pure_ (i:=8) (N:=some 62) (v:=undef) (a':=?_) #[true,true,true,true,true,true,true,true,true,false,false,false,false,false,false,false,false,false,false,false,false,false,false,false,false,false,false,false,false] rfl rfl (any_of HT_.out (by kernel_rfl)) (fun _ _ _ h => h) (Or.inr ⟨by rfl,rfl⟩) ?_ ?_;rotate_left
              ·
               simp only [Act.put,List.setIfInBounds_toArray,List.set_cons_zero,List.set_cons_succ,i64_w,i32_w]
               rfl
              refine pure_ (i:=9) (N:=some 63) (v:=undef) (a':=?_) #[true,true,true,true,true,true,true,true,true,true,false,false,false,false,false,false,false,false,false,false,false,false,false,false,false,false,false,false,false] rfl rfl (any_of HT_.out (by kernel_rfl)) (fun _ _ _ h => h) (Or.inr ⟨by rfl,rfl⟩) ?_ ?_;rotate_left
              ·
               simp only [Act.put,List.setIfInBounds_toArray,List.set_cons_zero,List.set_cons_succ,i64_w,i32_w]
               rfl
              refine pure_ (i:=10) (N:=some 64) (v:=undef) (a':=?_) #[true,true,true,true,true,true,true,true,true,true,true,false,false,false,false,false,false,false,false,false,false,false,false,false,false,false,false,false,false] rfl rfl (any_of HT_.out (by kernel_rfl)) (fun _ _ _ h => h) (Or.inr ⟨by rfl,rfl⟩) ?_ ?_;rotate_left
              ·
               simp only [Act.put,List.setIfInBounds_toArray,List.set_cons_zero,List.set_cons_succ,i64_w,i32_w]
               rfl
              refine pure_ (i:=11) (N:=some 65) (v:=undef) (a':=?_) #[true,true,true,true,true,true,true,true,true,true,true,true,false,false,false,false,false,false,false,false,false,false,false,false,false,false,false,false,false] rfl rfl (any_of HT_.out (by kernel_rfl)) (fun _ _ _ h => h) (Or.inr ⟨by rfl,rfl⟩) ?_ ?_;rotate_left
              ·
               simp only [Act.put,List.setIfInBounds_toArray,List.set_cons_zero,List.set_cons_succ,i64_w,i32_w]
               rfl
              refine pure_ (i:=12) (N:=some 66) (v:=undef) (a':=?_) #[true,true,true,true,true,true,true,true,true,true,true,true,true,false,false,false,false,false,false,false,false,false,false,false,false,false,false,false,false] rfl rfl (any_of HT_.out (by kernel_rfl)) (fun _ _ _ h => h) (Or.inr ⟨by rfl,rfl⟩) ?_ ?_;rotate_left
              ·
               simp only [Act.put,List.setIfInBounds_toArray,List.set_cons_zero,List.set_cons_succ,i64_w,i32_w]
               rfl
              refine pure_ (i:=13) (N:=some 67) (v:=undef) (a':=?_) #[true,true,true,true,true,true,true,true,true,true,true,true,true,true,false,false,false,false,false,false,false,false,false,false,false,false,false,false,false] rfl rfl (any_of HT_.out (by kernel_rfl)) (fun _ _ _ h => h) (Or.inr ⟨by rfl,rfl⟩) ?_ ?_;rotate_left
              ·
               simp only [Act.put,List.setIfInBounds_toArray,List.set_cons_zero,List.set_cons_succ,i64_w,i32_w]
               rfl
              refine pure_ (i:=14) (N:=some 68) (v:=undef) (a':=?_) #[true,true,true,true,true,true,true,true,true,true,true,true,true,true,true,false,false,false,false,false,false,false,false,false,false,false,false,false,false] rfl rfl (any_of HT_.out (by kernel_rfl)) (fun _ _ _ h => h) (Or.inr ⟨by rfl,rfl⟩) ?_ ?_;rotate_left
              ·
               simp only [Act.put,List.setIfInBounds_toArray,List.set_cons_zero,List.set_cons_succ,i64_w,i32_w]
               rfl
              refine pure_ (i:=15) (N:=some 69) (v:=undef) (a':=?_) #[true,true,true,true,true,true,true,true,true,true,true,true,true,true,true,true,false,false,false,false,false,false,false,false,false,false,false,false,false] rfl rfl (any_of HT_.out (by kernel_rfl)) (fun _ _ _ h => h) (Or.inr ⟨by rfl,rfl⟩) ?_ ?_;rotate_left
              ·
               simp only [Act.put,List.setIfInBounds_toArray,List.set_cons_zero,List.set_cons_succ,i64_w,i32_w]
               rfl
              refine pure_ (i:=16) (N:=some 70) (v:=undef) (a':=?_) #[true,true,true,true,true,true,true,true,true,true,true,true,true,true,true,true,true,false,false,false,false,false,false,false,false,false,false,false,false] rfl rfl (any_of HT_.out (by kernel_rfl)) (fun _ _ _ h => h) (Or.inr ⟨by rfl,rfl⟩) ?_ ?_;rotate_left
              ·
               simp only [Act.put,List.setIfInBounds_toArray,List.set_cons_zero,List.set_cons_succ,i64_w,i32_w]
               rfl
              refine pure_ (i:=17) (N:=some 71) (v:=undef) (a':=?_) #[true,true,true,true,true,true,true,true,true,true,true,true,true,true,true,true,true,true,false,false,false,false,false,false,false,false,false,false,false] rfl rfl (any_of HT_.out (by kernel_rfl)) (fun _ _ _ h => h) (Or.inr ⟨by rfl,rfl⟩) ?_ ?_;rotate_left
              ·
               simp only [Act.put,List.setIfInBounds_toArray,List.set_cons_zero,List.set_cons_succ,i64_w,i32_w]
               rfl
              refine pure_ (i:=18) (N:=some 72) (v:=undef) (a':=?_) #[true,true,true,true,true,true,true,true,true,true,true,true,true,true,true,true,true,true,true,false,false,false,false,false,false,false,false,false,false] rfl rfl (any_of HT_.out (by kernel_rfl)) (fun _ _ _ h => h) (Or.inr ⟨by rfl,rfl⟩) ?_ ?_;rotate_left
              ·
               simp only [Act.put,List.setIfInBounds_toArray,List.set_cons_zero,List.set_cons_succ,i64_w,i32_w]
               rfl
              refine pure_ (i:=19) (N:=some 73) (v:=undef) (a':=?_) #[true,true,true,true,true,true,true,true,true,true,true,true,true,true,true,true,true,true,true,true,false,false,false,false,false,false,false,false,false] rfl rfl (any_of HT_.out (by kernel_rfl)) (fun _ _ _ h => h) (Or.inr ⟨by rfl,rfl⟩) ?_ ?_;rotate_left
              ·
               simp only [Act.put,List.setIfInBounds_toArray,List.set_cons_zero,List.set_cons_succ,i64_w,i32_w]
               rfl
              refine pure_ (i:=20) (N:=some 74) (v:=undef) (a':=?_) #[true,true,true,true,true,true,true,true,true,true,true,true,true,true,true,true,true,true,true,true,true,false,false,false,false,false,false,false,false] rfl rfl (any_of HT_.out (by kernel_rfl)) (fun _ _ _ h => h) (Or.inr ⟨by rfl,rfl⟩) ?_ ?_;rotate_left
              ·
               simp only [Act.put,List.setIfInBounds_toArray,List.set_cons_zero,List.set_cons_succ,i64_w,i32_w]
               rfl
              refine pure_ (i:=21) (N:=some 75) (v:=undef) (a':=?_) #[true,true,true,true,true,true,true,true,true,true,true,true,true,true,true,true,true,true,true,true,true,true,false,false,false,false,false,false,false] rfl rfl (any_of HT_.out (by kernel_rfl)) (fun _ _ _ h => h) (Or.inr ⟨by rfl,rfl⟩) ?_ ?_;rotate_left
              ·
               simp only [Act.put,List.setIfInBounds_toArray,List.set_cons_zero,List.set_cons_succ,i64_w,i32_w]
               rfl
              refine pure_ (i:=22) (N:=some 76) (v:=undef) (a':=?_) #[true,true,true,true,true,true,true,true,true,true,true,true,true,true,true,true,true,true,true,true,true,true,true,false,false,false,false,false,false] rfl rfl (any_of HT_.out (by kernel_rfl)) (fun _ _ _ h => h) (Or.inr ⟨by rfl,rfl⟩) ?_ ?_;rotate_left
              ·
               simp only [Act.put,List.setIfInBounds_toArray,List.set_cons_zero,List.set_cons_succ,i64_w,i32_w]
               rfl
              refine pure_ (i:=23) (N:=some 77) (v:=undef) (a':=?_) #[true,true,true,true,true,true,true,true,true,true,true,true,true,true,true,true,true,true,true,true,true,true,true,true,false,false,false,false,false] rfl rfl (any_of HT_.out (by kernel_rfl)) (fun _ _ _ h => h) (Or.inr ⟨by rfl,rfl⟩) ?_ ?_;rotate_left
              ·
               simp only [Act.put,List.setIfInBounds_toArray,List.set_cons_zero,List.set_cons_succ,i64_w,i32_w]
               rfl
              refine pure_ (i:=24) (N:=some 78) (v:=undef) (a':=?_) #[true,true,true,true,true,true,true,true,true,true,true,true,true,true,true,true,true,true,true,true,true,true,true,true,true,false,false,false,false] rfl rfl (any_of HT_.out (by kernel_rfl)) (fun _ _ _ h => h) (Or.inr ⟨by rfl,rfl⟩) ?_ ?_;rotate_left
              ·
               simp only [Act.put,List.setIfInBounds_toArray,List.set_cons_zero,List.set_cons_succ,i64_w,i32_w]
               rfl
              refine pure_ (i:=25) (N:=some 79) (v:=undef) (a':=?_) #[true,true,true,true,true,true,true,true,true,true,true,true,true,true,true,true,true,true,true,true,true,true,true,true,true,true,false,false,false] rfl rfl (any_of HT_.out (by kernel_rfl)) (fun _ _ _ h => h) (Or.inr ⟨by rfl,rfl⟩) ?_ ?_;rotate_left
              ·
               simp only [Act.put,List.setIfInBounds_toArray,List.set_cons_zero,List.set_cons_succ,i64_w,i32_w]
               rfl
              refine pure_ (i:=26) (N:=some 80) (v:=undef) (a':=?_) #[true,true,true,true,true,true,true,true,true,true,true,true,true,true,true,true,true,true,true,true,true,true,true,true,true,true,true,false,false] rfl rfl (any_of HT_.out (by kernel_rfl)) (fun _ _ _ h => h) (Or.inr ⟨by rfl,rfl⟩) ?_ ?_;rotate_left
              ·
               simp only [Act.put,List.setIfInBounds_toArray,List.set_cons_zero,List.set_cons_succ,i64_w,i32_w]
               rfl
              refine pure_ (i:=27) (N:=some 81) (v:=undef) (a':=?_) #[true,true,true,true,true,true,true,true,true,true,true,true,true,true,true,true,true,true,true,true,true,true,true,true,true,true,true,true,false] rfl rfl (any_of HT_.out (by kernel_rfl)) (fun _ _ _ h => h) (Or.inr ⟨by rfl,rfl⟩) ?_ ?_;rotate_left
              ·
               simp only [Act.put,List.setIfInBounds_toArray,List.set_cons_zero,List.set_cons_succ,i64_w,i32_w]
               rfl
              refine pure_ (i:=28) (N:=some 82) (v:=?_) (a':=?_) #[true,true,true,true,true,true,true,true,true,true,true,true,true,true,true,true,true,true,true,true,true,true,true,true,true,true,true,true,true] rfl rfl (any_of HT_.out (by kernel_rfl)) (fun _ _ _ h => h) (Or.inl ⟨by rfl,?_⟩) ?_ ?_;rotate_left
              ·
               intro w'
               go_simp
               with_reducible rfl
              rotate_left
              ·
               simp only [Act.put,List.setIfInBounds_toArray,List.set_cons_zero,List.set_cons_succ,i64_w,i32_w]
               rfl
              refine done_ (done_of HT_.out (by kernel_rfl)) ?_
              try go_wp2
              go_roundg kj33
              case measure => have:=HK1.out;have:=HJ31.out;have:=HJ33.out;omega
              case rel => exact ⟨(x6_31),(wrap64 (x7_1 + 1)),(by first|rfl|(simp;done)|(simp [*];done)),(by first|rfl|(simp;done)|(simp [*];done)),H',⟨by have:=HK1.out;have:=HJ31.out;have:=HJ33.out;omega⟩,⟨rU HO_415000.out⟩,⟨rU HO_415001.out⟩,⟨rU HO_415002.out⟩,⟨blkU BK414.out⟩,⟨by repeat (first|(with_reducible first|exact HB.out|apply below_alloc|apply pw_below_drewN|apply below_drew1|refine below_set ?_ GE414.out)|exact HB.out)⟩⟩
       ·
        rw [if_neg c30] at H
        exact absurd H (by simp)
      ·
       rw [if_neg c29] at H
       have c29b0 : decide (x7_1 < (t413.size : Int)) = false:=decide_eq_false c29;clear c29
       replace H:=Option.bind_eq_some_iff.mp H
       obtain ⟨t419,A640,H⟩:=H
       replace H : ((impl_PlaceOf.f (t413.size : Int) x6_1).bind fun t422 => (if t422 < 0 then (some true) else (if t422 < (t419.length : Int) then (if 0 ≤ t422 then (some (t415 == ((rd t419 t422) == 1))) else (none)) else (some false)))) = some r:=H
       have A64:=Aside0.mk A640;clear A640
       replace H:=Option.bind_eq_some_iff.mp H
       obtain ⟨t422,A650,H⟩:=H
       replace H : (if t422 < 0 then (some true) else (if t422 < (t419.length : Int) then (if 0 ≤ t422 then (some (t415 == ((rd t419 t422) == 1))) else (none)) else (some false))) = some r:=H
       have A65:=Aside0.mk A650;clear A650
       by_cases c66 : t422 < 0
       ·
        rw [if_pos c66] at H
        have c66b0 : decide (t422 < 0) = true:=decide_eq_true c66;clear c66
        obtain rfl:=Option.some.inj H
        have hcz67_0 : wr.cell? ⟨gb414,0,none⟩ = some (.slice Ao20 t404.length co20):=(blk_cell BK414.out 0).trans rfl
        have hcz67_1 : wr.cell? ⟨gb414,1,none⟩ = some (.slice Ao22 t407.length co22):=(blk_cell BK414.out 1).trans rfl
        have hcz67_2 : wr.cell? ⟨gb414,2,none⟩ = some (.slice Ao23 t410.length co23):=(blk_cell BK414.out 2).trans rfl
        have hfz67_0:=blk_frozen BK414.out 0
        have hfz67_1:=blk_frozen BK414.out 1
        have hfz67_2:=blk_frozen BK414.out 2
        go_wp2_with (first|((with_reducible refine gate_callee (f:=10) rfl ?_);refine goesL_ (some 84) rfl rfl Tryd.func10 (by kernel_rfl) rfl #[.agg #[.slice Ao20 t404.length co20,.slice Ao22 t407.length co22,.slice Ao23 t410.length co23]] rfl (by (try simp only [List.map_toArray,List.map_cons,List.map_nil]);first|done|rfl|(simp only [List.length_drop,List.length_take];rfl)) ?_;(with_reducible refine (impl_TriangleOf.calls k1 _ _ t404 _ _ t407 _ _ t410 t419 _ ?side1 ?side2 ?side3 ?side4 ?side5 ?side6 A64.out).mono ?_);(case side1 => exact cU (Kd.R_reads' HO_415000.out).2.2);(case side2 => exact (Kd.R_reads' HO_415000.out).2.1);(case side3 => exact cU (Kd.R_reads' HO_415001.out).2.2);(case side4 => exact (Kd.R_reads' HO_415001.out).2.1);(case side5 => exact cU (Kd.R_reads' HO_415002.out).2.2);(case side6 => exact (Kd.R_reads' HO_415002.out).2.1);rintro e w68 ⟨v420,rfl,ho0,hb⟩;refine ⟨_,rfl,?_⟩;have n0_:=Aside0.mk (Kd.R_elder' (rU HO_415000.out) (Kd.R_base ho0) hb);have n1_:=Aside0.mk (Kd.R_elder' (rU HO_415001.out) (Kd.R_base ho0) hb);have n2_:=Aside0.mk (Kd.R_elder' (rU HO_415002.out) (Kd.R_base ho0) hb);have n3_:=Aside0.mk (Kd.R_lower (Kd.R_new' (Kd.R_new' (Kd.R_new' ho0 (Kd.R_lt (rU HO_415000.out))) (Kd.R_lt (rU HO_415001.out))) (Kd.R_lt (rU HO_415002.out))) (below_size (by repeat (first|(with_reducible first|exact HB.out|apply below_alloc|apply pw_below_drewN|apply below_drew1|refine below_set ?_ GE414.out)|exact HB.out))));have n4_:=Aside0.mk (blk_below (g:=gb414) (o:=.cells #[.slice Ao20 t404.length co20,.slice Ao22 t407.length co22,.slice Ao23 t410.length co23] 25 (0,0)) (blkU BK414.out) hb);have n5_:=Aside0.mk (below_step (by repeat (first|(with_reducible first|exact HB.out|apply below_alloc|apply pw_below_drewN|apply below_drew1|refine below_set ?_ GE414.out)|exact HB.out)) hb);clear HO_415000 HO_415001 HO_415002 BK414 HB;have HO_415000:=n0_;have HO_415001:=n1_;have HO_415002:=n2_;have HO421:=n3_;have BK414:=n4_;have HB:=n5_;clear n0_ n1_ n2_ n3_ n4_ n5_;(try clear hb);(try clear hb2);(try clear hk);(try clear hi);(try clear ho0))|((with_reducible refine gate_callee (f:=11) rfl ?_);refine goesL_ (some 88) rfl rfl Tryd.func11 (by kernel_rfl) rfl #[.int .i64 (t413.size : Int),.int .i64 x6_1] rfl (by (try simp only [List.map_toArray,List.map_cons,List.map_nil]);first|done|rfl|(simp only [List.length_drop,List.length_take];rfl)) ?_;(with_reducible refine (impl_PlaceOf.calls (t413.size : Int) x6_1 t422 _ A65.out).mono ?_);rintro e w' ⟨rfl,⟨nd,rfl⟩⟩;refine ⟨_,rfl,?_⟩))
        go_ret
        exact ⟨by first|rfl|(simp [errW_none,errW_some] <;> rfl)|(simp [*,errW_none,errW_some] <;> rfl),by repeat (first|(with_reducible first|exact HB.out|apply below_alloc|apply pw_below_drewN|apply below_drew1|refine below_set ?_ GE414.out)|exact HB.out)⟩
       ·
        rw [if_neg c66] at H
        have c66b0 : decide (t422 < 0) = false:=decide_eq_false c66;clear c66
        by_cases c69 : t422 < (t419.length : Int)
        ·
         rw [if_pos c69] at H
         have c69b0 : decide (t422 < (t419.length : Int)) = true:=decide_eq_true c69;clear c69
         by_cases c70 : 0 ≤ t422
         ·
          rw [if_pos c70] at H
          have c70b0 : decide (0 ≤ t422) = true:=decide_eq_true c70;clear c70
          obtain rfl:=Option.some.inj H
          have hcz71_0 : wr.cell? ⟨gb414,0,none⟩ = some (.slice Ao20 t404.length co20):=(blk_cell BK414.out 0).trans rfl
          have hcz71_1 : wr.cell? ⟨gb414,1,none⟩ = some (.slice Ao22 t407.length co22):=(blk_cell BK414.out 1).trans rfl
          have hcz71_2 : wr.cell? ⟨gb414,2,none⟩ = some (.slice Ao23 t410.length co23):=(blk_cell BK414.out 2).trans rfl
          have hfz71_0:=blk_frozen BK414.out 0
          have hfz71_1:=blk_frozen BK414.out 1
          have hfz71_2:=blk_frozen BK414.out 2
          go_wp2_with (first|((with_reducible refine gate_callee (f:=10) rfl ?_);refine goesL_ (some 84) rfl rfl Tryd.func10 (by kernel_rfl) rfl #[.agg #[.slice Ao20 t404.length co20,.slice Ao22 t407.length co22,.slice Ao23 t410.length co23]] rfl (by (try simp only [List.map_toArray,List.map_cons,List.map_nil]);first|done|rfl|(simp only [List.length_drop,List.length_take];rfl)) ?_;(with_reducible refine (impl_TriangleOf.calls k1 _ _ t404 _ _ t407 _ _ t410 t419 _ ?side1 ?side2 ?side3 ?side4 ?side5 ?side6 A64.out).mono ?_);(case side1 => exact cU (Kd.R_reads' HO_415000.out).2.2);(case side2 => exact (Kd.R_reads' HO_415000.out).2.1);(case side3 => exact cU (Kd.R_reads' HO_415001.out).2.2);(case side4 => exact (Kd.R_reads' HO_415001.out).2.1);(case side5 => exact cU (Kd.R_reads' HO_415002.out).2.2);(case side6 => exact (Kd.R_reads' HO_415002.out).2.1);rintro e w72 ⟨v420,rfl,ho0,hb⟩;refine ⟨_,rfl,?_⟩;have n0_:=Aside0.mk (Kd.R_elder' (rU HO_415000.out) (Kd.R_base ho0) hb);have n1_:=Aside0.mk (Kd.R_elder' (rU HO_415001.out) (Kd.R_base ho0) hb);have n2_:=Aside0.mk (Kd.R_elder' (rU HO_415002.out) (Kd.R_base ho0) hb);have n3_:=Aside0.mk (Kd.R_lower (Kd.R_new' (Kd.R_new' (Kd.R_new' ho0 (Kd.R_lt (rU HO_415000.out))) (Kd.R_lt (rU HO_415001.out))) (Kd.R_lt (rU HO_415002.out))) (below_size (by repeat (first|(with_reducible first|exact HB.out|apply below_alloc|apply pw_below_drewN|apply below_drew1|refine below_set ?_ GE414.out)|exact HB.out))));have n4_:=Aside0.mk (blk_below (g:=gb414) (o:=.cells #[.slice Ao20 t404.length co20,.slice Ao22 t407.length co22,.slice Ao23 t410.length co23] 25 (0,0)) (blkU BK414.out) hb);have n5_:=Aside0.mk (below_step (by repeat (first|(with_reducible first|exact HB.out|apply below_alloc|apply pw_below_drewN|apply below_drew1|refine below_set ?_ GE414.out)|exact HB.out)) hb);clear HO_415000 HO_415001 HO_415002 BK414 HB;have HO_415000:=n0_;have HO_415001:=n1_;have HO_415002:=n2_;have HO421:=n3_;have BK414:=n4_;have HB:=n5_;clear n0_ n1_ n2_ n3_ n4_ n5_;(try clear hb);(try clear hb2);(try clear hk);(try clear hi);(try clear ho0))|((with_reducible refine gate_callee (f:=11) rfl ?_);refine goesL_ (some 88) rfl rfl Tryd.func11 (by kernel_rfl) rfl #[.int .i64 (t413.size : Int),.int .i64 x6_1] rfl (by (try simp only [List.map_toArray,List.map_cons,List.map_nil]);first|done|rfl|(simp only [List.length_drop,List.length_take];rfl)) ?_;(with_reducible refine (impl_PlaceOf.calls (t413.size : Int) x6_1 t422 _ A65.out).mono ?_);rintro e w' ⟨rfl,⟨nd,rfl⟩⟩;refine ⟨_,rfl,?_⟩;obtain ⟨Ao73,co73,eo73⟩:=Kd.R_slice HO421.out;subst eo73;have p423 : 0 ≤ (t422 : Int):=of_decide_eq_true (by first|(with_reducible assumption)|assumption);have q423 : t422 < (t419.length : Int):=of_decide_eq_true (by first|(with_reducible assumption)|assumption);obtain ⟨ad423,e423,hx423_0⟩:=Kd.at_int (Kd.R_reads' HO421.out).2.2 t422 p423 q423;cases e423;replace p423:=eq_true p423;replace q423:=eq_true q423))
          go_ret
          exact ⟨by first|rfl|(simp [errW_none,errW_some] <;> rfl)|(simp [*,errW_none,errW_some] <;> rfl),by repeat (first|(with_reducible first|exact HB.out|apply below_alloc|apply pw_below_drewN|apply below_drew1|refine below_set ?_ GE414.out)|exact HB.out)⟩
         ·
          rw [if_neg c70] at H
          exact absurd H (by simp)
        ·
         rw [if_neg c69] at H
         have c69b0 : decide (t422 < (t419.length : Int)) = false:=decide_eq_false c69;clear c69
         obtain rfl:=Option.some.inj H
         have hcz74_0 : wr.cell? ⟨gb414,0,none⟩ = some (.slice Ao20 t404.length co20):=(blk_cell BK414.out 0).trans rfl
         have hcz74_1 : wr.cell? ⟨gb414,1,none⟩ = some (.slice Ao22 t407.length co22):=(blk_cell BK414.out 1).trans rfl
         have hcz74_2 : wr.cell? ⟨gb414,2,none⟩ = some (.slice Ao23 t410.length co23):=(blk_cell BK414.out 2).trans rfl
         have hfz74_0:=blk_frozen BK414.out 0
         have hfz74_1:=blk_frozen BK414.out 1
         have hfz74_2:=blk_frozen BK414.out 2
         go_wp2_with (first|((with_reducible refine gate_callee (f:=10) rfl ?_);refine goesL_ (some 84) rfl rfl Tryd.func10 (by kernel_rfl) rfl #[.agg #[.slice Ao20 t404.length co20,.slice Ao22 t407.length co22,.slice Ao23 t410.length co23]] rfl (by (try simp only [List.map_toArray,List.map_cons,List.map_nil]);first|done|rfl|(simp only [List.length_drop,List.length_take];rfl)) ?_;(with_reducible refine (impl_TriangleOf.calls k1 _ _ t404 _ _ t407 _ _ t410 t419 _ ?side1 ?side2 ?side3 ?side4 ?side5 ?side6 A64.out).mono ?_);(case side1 => exact cU (Kd.R_reads' HO_415000.out).2.2);(case side2 => exact (Kd.R_reads' HO_415000.out).2.1);(case side3 => exact cU (Kd.R_reads' HO_415001.out).2.2);(case side4 => exact (Kd.R_reads' HO_415001.out).2.1);(case side5 => exact cU (Kd.R_reads' HO_415002.out).2.2);(case side6 => exact (Kd.R_reads' HO_415002.out).2.1);rintro e w75 ⟨v420,rfl,ho0,hb⟩;refine ⟨_,rfl,?_⟩;have n0_:=Aside0.mk (Kd.R_elder' (rU HO_415000.out) (Kd.R_base ho0) hb);have n1_:=Aside0.mk (Kd.R_elder' (rU HO_415001.out) (Kd.R_base ho0) hb);have n2_:=Aside0.mk (Kd.R_elder' (rU HO_415002.out) (Kd.R_base ho0) hb);have n3_:=Aside0.mk (Kd.R_lower (Kd.R_new' (Kd.R_new' (Kd.R_new' ho0 (Kd.R_lt (rU HO_415000.out))) (Kd.R_lt (rU HO_415001.out))) (Kd.R_lt (rU HO_415002.out))) (below_size (by repeat (first|(with_reducible first|exact HB.out|apply below_alloc|apply pw_below_drewN|apply below_drew1|refine below_set ?_ GE414.out)|exact HB.out))));have n4_:=Aside0.mk (blk_below (g:=gb414) (o:=.cells #[.slice Ao20 t404.length co20,.slice Ao22 t407.length co22,.slice Ao23 t410.length co23] 25 (0,0)) (blkU BK414.out) hb);have n5_:=Aside0.mk (below_step (by repeat (first|(with_reducible first|exact HB.out|apply below_alloc|apply pw_below_drewN|apply below_drew1|refine below_set ?_ GE414.out)|exact HB.out)) hb);clear HO_415000 HO_415001 HO_415002 BK414 HB;have HO_415000:=n0_;have HO_415001:=n1_;have HO_415002:=n2_;have HO421:=n3_;have BK414:=n4_;have HB:=n5_;clear n0_ n1_ n2_ n3_ n4_ n5_;(try clear hb);(try clear hb2);(try clear hk);(try clear hi);(try clear ho0))|((with_reducible refine gate_callee (f:=11) rfl ?_);refine goesL_ (some 88) rfl rfl Tryd.func11 (by kernel_rfl) rfl #[.int .i64 (t413.size : Int),.int .i64 x6_1] rfl (by (try simp only [List.map_toArray,List.map_cons,List.map_nil]);first|done|rfl|(simp only [List.length_drop,List.length_take];rfl)) ?_;(with_reducible refine (impl_PlaceOf.calls (t413.size : Int) x6_1 t422 _ A65.out).mono ?_);rintro e w' ⟨rfl,⟨nd,rfl⟩⟩;refine ⟨_,rfl,?_⟩;obtain ⟨Ao76,co76,eo76⟩:=Kd.R_slice HO421.out;subst eo76))
         go_ret
         exact ⟨by first|rfl|(simp [errW_none,errW_some] <;> rfl)|(simp [*,errW_none,errW_some] <;> rfl),by repeat (first|(with_reducible first|exact HB.out|apply below_alloc|apply pw_below_drewN|apply below_drew1|refine below_set ?_ GE414.out)|exact HB.out)⟩
   ·
    replace c17:=Bool.eq_false_iff.mpr c17;subst c17
    have H1 : ((laws_alive.f).bind fun t418 => (some t418)) = some r:=by rw [if_neg (show ¬ (false = true) by decide)] at H;exact H
    clear H;have H:=H1;clear H1
    replace H:=Option.bind_eq_some_iff.mp H
    obtain ⟨t418,A770,H⟩:=H
    replace H : (some t418) = some r:=H
    have A77:=Aside0.mk A770;clear A770
    obtain rfl:=Option.some.inj H
    go_enter Tryd.func3,Tryd.ntmps3
    go_wp2_with (first|((with_reducible refine gate_callee (f:=5) rfl ?_);refine goesL_ (some 15) rfl rfl Tryd.func5 (by kernel_rfl) rfl #[.slice A0 l0.length c0] rfl (by (try simp only [List.map_toArray,List.map_cons,List.map_nil]);first|done|rfl|(simp only [List.length_drop,List.length_take];rfl)) ?_;(with_reducible refine (spec_DrawSaysYes.calls k _ _ l0 t404 t407 t410 t413 _ ?side1 ?side2 A3.out).mono ?_);(case side1 => repeat (first|exact HR0.out|(with_reducible refine Kd.C_alloc ?_ _)|(with_reducible refine Kd.C_drewN ?_ _)|(with_reducible refine Kd.C_drew ?_)));(case side2 => exact HC0.out);rintro e w78 ⟨v405,v408,v411,rfl,ho0,ho1,ho2,hb⟩;refine ⟨_,rfl,?_⟩;have n0_:=Aside0.mk (Kd.R_lower ho0 (below_size (belU HB.out)));have n1_:=Aside0.mk (Kd.R_lower ho1 (below_size (belU HB.out)));have n2_:=Aside0.mk (Kd.R_lower ho2 (below_size (belU HB.out)));have n3_:=Aside0.mk (below_step (belU HB.out) hb);clear HB;have HO406:=n0_;have HO409:=n1_;have HO412:=n2_;have HB:=n3_;clear n0_ n1_ n2_ n3_;(try clear hb);(try clear hb2);(try clear hk);(try clear hi);(try clear ho0);(try clear ho1);(try clear ho2))|((with_reducible refine gate_dst (N:=3) rfl ?_);(try (refine gate_guard (by rfl) ?_;dsimp only));refine box_event ?hg (N:=3) ?hd (cs:=#[.slice none 0 0,.slice none 0 0,.slice none 0 0]) (t:=25) ?hr ?_;(case hd => rfl);(case hg => rfl);(case hr => first|(go_simp;done)|(go_simp;rfl));intro gb414 hg w79 hbox hb;have n0_:=Aside0.mk (Kd.R_below (rU HO406.out) hb);have n1_:=Aside0.mk (Kd.R_below (rU HO409.out) hb);have n2_:=Aside0.mk (Kd.R_below (rU HO412.out) hb);have n3_:=Aside0.mk (below_step (belU HB.out) hb);have n4_:=Aside0.mk (hbox);have n5_:=Aside0.mk ((by rw [hg];exact (below_size (belU HB.out)) : w.heap.size ≤ gb414));have n6_:=Aside0.mk ((by rw [hg];exact (below_size (belU HB.out)) : w.heap.size ≤ gb414));clear HO406 HO409 HO412 HB;have HO406:=n0_;have HO409:=n1_;have HO412:=n2_;have HB:=n3_;have BK414:=n4_;have GW414:=n5_;have GE414:=n6_;clear n0_ n1_ n2_ n3_ n4_ n5_ n6_ hb hbox hg;obtain ⟨Ao80,co80,eo80⟩:=Kd.R_slice HO406.out;subst eo80;have hcz81_0 : w79.cell? ⟨gb414,0,none⟩ = some (.slice none 0 0):=(blk_cell BK414.out 0).trans rfl;have hcz81_1 : w79.cell? ⟨gb414,1,none⟩ = some (.slice none 0 0):=(blk_cell BK414.out 1).trans rfl;have hcz81_2 : w79.cell? ⟨gb414,2,none⟩ = some (.slice none 0 0):=(blk_cell BK414.out 2).trans rfl;have hfz81_0:=blk_frozen BK414.out 0;have hfz81_1:=blk_frozen BK414.out 1;have hfz81_2:=blk_frozen BK414.out 2;obtain ⟨Ao82,co82,eo82⟩:=Kd.R_slice HO409.out;subst eo82;obtain ⟨Ao83,co83,eo83⟩:=Kd.R_slice HO412.out;subst eo83)|((with_reducible refine gate_callee (f:=6) rfl ?_);refine goesL_ (some 20) rfl rfl Tryd.func6 (by kernel_rfl) rfl #[.agg #[.slice Ao80 t404.length co80,.slice Ao82 t407.length co82,.slice Ao83 t410.length co83],.string t413] rfl (by (try simp only [List.map_toArray,List.map_cons,List.map_nil]);first|done|rfl|(simp only [List.length_drop,List.length_take];rfl)) ?_;(with_reducible refine (impl_SaysYes.calls k _ _ t404 _ _ t407 _ _ t410 t413 t415 _ ?side1 ?side2 ?side3 ?side4 ?side5 ?side6 A4.out).mono ?_);(case side1 => refine (Kd.R_reads' (e:=3) (base:=w.heap.size) (ok:=fun k_ => (some k_ ≠ (.slice Ao82 t407.length co82 : Value).ownBlock ∧ some k_ ≠ (.slice Ao83 t410.length co83 : Value).ownBlock)) (n:=t404.length) (c:=co80) ?_).2.2;exact (by (with_reducible repeat (first|apply Kd.R_alloc|apply Kd.R_drewN|apply Kd.R_drew));exact (Kd.R_mono (Kd.R_far (p:=⟨gb414,2,none⟩) (Kd.R_far (p:=⟨gb414,1,none⟩) (Kd.R_far (p:=⟨gb414,0,none⟩) (Kd.R_types HO406.out BK414.out (by decide)) (fun _ hk => hk.2) (.slice Ao80 t404.length co80)) (fun _ hk => hk.2) (.slice Ao82 t407.length co82)) (fun _ hk => hk.2) (.slice Ao83 t410.length co83)) (fun _ h_ => h_.1))));(case side2 => exact (Kd.R_reads' HO406.out).2.1);(case side3 => refine (Kd.R_reads' (e:=3) (base:=w.heap.size) (ok:=fun k_ => (some k_ ≠ (.slice Ao80 t404.length co80 : Value).ownBlock ∧ some k_ ≠ (.slice Ao83 t410.length co83 : Value).ownBlock)) (n:=t407.length) (c:=co82) ?_).2.2;exact (by (with_reducible repeat (first|apply Kd.R_alloc|apply Kd.R_drewN|apply Kd.R_drew));exact (Kd.R_mono (Kd.R_far (p:=⟨gb414,2,none⟩) (Kd.R_far (p:=⟨gb414,1,none⟩) (Kd.R_far (p:=⟨gb414,0,none⟩) (Kd.R_types HO409.out BK414.out (by decide)) (fun _ hk => hk.2) (.slice Ao80 t404.length co80)) (fun _ hk => hk.2) (.slice Ao82 t407.length co82)) (fun _ hk => hk.2) (.slice Ao83 t410.length co83)) (fun _ h_ => h_.1))));(case side4 => exact (Kd.R_reads' HO409.out).2.1);(case side5 => refine (Kd.R_reads' (e:=3) (base:=w.heap.size) (ok:=fun k_ => (some k_ ≠ (.slice Ao80 t404.length co80 : Value).ownBlock ∧ some k_ ≠ (.slice Ao82 t407.length co82 : Value).ownBlock)) (n:=t410.length) (c:=co83) ?_).2.2;exact (by (with_reducible repeat (first|apply Kd.R_alloc|apply Kd.R_drewN|apply Kd.R_drew));exact (Kd.R_mono (Kd.R_far (p:=⟨gb414,2,none⟩) (Kd.R_far (p:=⟨gb414,1,none⟩) (Kd.R_far (p:=⟨gb414,0,none⟩) (Kd.R_types HO412.out BK414.out (by decide)) (fun _ hk => hk.2) (.slice Ao80 t404.length co80)) (fun _ hk => hk.2) (.slice Ao82 t407.length co82)) (fun _ hk => hk.2) (.slice Ao83 t410.length co83)) (fun _ h_ => h_.1))));(case side6 => exact (Kd.R_reads' HO412.out).2.1);rintro e w84 ⟨rfl,hb⟩;refine ⟨_,rfl,?_⟩;have n0_:=Aside0.mk (Kd.R_below (by (with_reducible repeat (first|apply Kd.R_alloc|apply Kd.R_drewN|apply Kd.R_drew));exact (Kd.R_mono (Kd.R_far (p:=⟨gb414,2,none⟩) (Kd.R_far (p:=⟨gb414,1,none⟩) (Kd.R_far (p:=⟨gb414,0,none⟩) (Kd.R_types HO406.out BK414.out (by decide)) (fun _ hk => hk.2) (.slice Ao80 t404.length co80)) (fun _ hk => hk.2) (.slice Ao82 t407.length co82)) (fun _ hk => hk.2) (.slice Ao83 t410.length co83)) (fun _ h_ => h_.1))) hb);have n1_:=Aside0.mk (Kd.R_below (by (with_reducible repeat (first|apply Kd.R_alloc|apply Kd.R_drewN|apply Kd.R_drew));exact (Kd.R_mono (Kd.R_far (p:=⟨gb414,2,none⟩) (Kd.R_far (p:=⟨gb414,1,none⟩) (Kd.R_far (p:=⟨gb414,0,none⟩) (Kd.R_types HO409.out BK414.out (by decide)) (fun _ hk => hk.2) (.slice Ao80 t404.length co80)) (fun _ hk => hk.2) (.slice Ao82 t407.length co82)) (fun _ hk => hk.2) (.slice Ao83 t410.length co83)) (fun _ h_ => h_.1))) hb);have n2_:=Aside0.mk (Kd.R_below (by (with_reducible repeat (first|apply Kd.R_alloc|apply Kd.R_drewN|apply Kd.R_drew));exact (Kd.R_mono (Kd.R_far (p:=⟨gb414,2,none⟩) (Kd.R_far (p:=⟨gb414,1,none⟩) (Kd.R_far (p:=⟨gb414,0,none⟩) (Kd.R_types HO412.out BK414.out (by decide)) (fun _ hk => hk.2) (.slice Ao80 t404.length co80)) (fun _ hk => hk.2) (.slice Ao82 t407.length co82)) (fun _ hk => hk.2) (.slice Ao83 t410.length co83)) (fun _ h_ => h_.1))) hb);have n3_:=Aside0.mk (blk_below (g:=gb414) (o:=.cells #[.slice Ao80 t404.length co80,.slice Ao82 t407.length co82,.slice Ao83 t410.length co83] 25 (0,0)) (by (with_reducible repeat (first|refine blk_drewN ?_ _|refine blk_drew ?_|refine blk_alloc ?_ _));refine blk_put (cs:=#[.slice Ao80 t404.length co80,.slice Ao82 t407.length co82,.slice none 0 0]) ?_ 2 _ rfl;(with_reducible repeat (first|refine blk_drewN ?_ _|refine blk_drew ?_|refine blk_alloc ?_ _));refine blk_put (cs:=#[.slice Ao80 t404.length co80,.slice none 0 0,.slice none 0 0]) ?_ 1 _ rfl;(with_reducible repeat (first|refine blk_drewN ?_ _|refine blk_drew ?_|refine blk_alloc ?_ _));refine blk_put (cs:=#[.slice none 0 0,.slice none 0 0,.slice none 0 0]) ?_ 0 _ rfl;(with_reducible repeat (first|refine blk_drewN ?_ _|refine blk_drew ?_|refine blk_alloc ?_ _));exact BK414.out) hb);have n4_:=Aside0.mk (below_step (by repeat (first|(with_reducible first|exact HB.out|apply below_alloc|apply pw_below_drewN|apply below_drew1|refine below_set ?_ GE414.out)|exact HB.out)) hb);clear HO406 HO409 HO412 BK414 HB;have HO406:=n0_;have HO409:=n1_;have HO412:=n2_;have BK414:=n3_;have HB:=n4_;clear n0_ n1_ n2_ n3_ n4_;(try clear hb);(try clear hb2);(try clear hk);(try clear hi);have hcz85_0 : w84.cell? ⟨gb414,0,none⟩ = some (.slice Ao80 t404.length co80):=(blk_cell BK414.out 0).trans rfl;have hcz85_1 : w84.cell? ⟨gb414,1,none⟩ = some (.slice Ao82 t407.length co82):=(blk_cell BK414.out 1).trans rfl;have hcz85_2 : w84.cell? ⟨gb414,2,none⟩ = some (.slice Ao83 t410.length co83):=(blk_cell BK414.out 2).trans rfl;have hfz85_0:=blk_frozen BK414.out 0;have hfz85_1:=blk_frozen BK414.out 1;have hfz85_2:=blk_frozen BK414.out 2)|((with_reducible refine gate_callee (f:=7) rfl ?_);refine goesL_ (some 24) rfl rfl Tryd.func7 (by kernel_rfl) rfl #[.agg #[.slice Ao80 t404.length co80,.slice Ao82 t407.length co82,.slice Ao83 t410.length co83],.string t413] rfl (by (try simp only [List.map_toArray,List.map_cons,List.map_nil]);first|done|rfl|(simp only [List.length_drop,List.length_take];rfl)) ?_;(with_reducible refine (spec_SaysYes.calls k _ _ t404 _ _ t407 _ _ t410 t413 t416 _ ?side1 ?side2 ?side3 ?side4 ?side5 ?side6 A5.out).mono ?_);(case side1 => exact cU (Kd.R_reads' HO406.out).2.2);(case side2 => exact (Kd.R_reads' HO406.out).2.1);(case side3 => exact cU (Kd.R_reads' HO409.out).2.2);(case side4 => exact (Kd.R_reads' HO409.out).2.1);(case side5 => exact cU (Kd.R_reads' HO412.out).2.2);(case side6 => exact (Kd.R_reads' HO412.out).2.1);rintro e w86 ⟨rfl,hb⟩;refine ⟨_,rfl,?_⟩;have n0_:=Aside0.mk (Kd.R_below (rU HO406.out) hb);have n1_:=Aside0.mk (Kd.R_below (rU HO409.out) hb);have n2_:=Aside0.mk (Kd.R_below (rU HO412.out) hb);have n3_:=Aside0.mk (blk_below (g:=gb414) (o:=.cells #[.slice Ao80 t404.length co80,.slice Ao82 t407.length co82,.slice Ao83 t410.length co83] 25 (0,0)) (blkU BK414.out) hb);have n4_:=Aside0.mk (below_step (by repeat (first|(with_reducible first|exact HB.out|apply below_alloc|apply pw_below_drewN|apply below_drew1|refine below_set ?_ GE414.out)|exact HB.out)) hb);clear HO406 HO409 HO412 BK414 HB;have HO406:=n0_;have HO409:=n1_;have HO412:=n2_;have BK414:=n3_;have HB:=n4_;clear n0_ n1_ n2_ n3_ n4_;(try clear hb);(try clear hb2);(try clear hk);(try clear hi);have hcz87_0 : w86.cell? ⟨gb414,0,none⟩ = some (.slice Ao80 t404.length co80):=(blk_cell BK414.out 0).trans rfl;have hcz87_1 : w86.cell? ⟨gb414,1,none⟩ = some (.slice Ao82 t407.length co82):=(blk_cell BK414.out 1).trans rfl;have hcz87_2 : w86.cell? ⟨gb414,2,none⟩ = some (.slice Ao83 t410.length co83):=(blk_cell BK414.out 2).trans rfl;have hfz87_0:=blk_frozen BK414.out 0;have hfz87_1:=blk_frozen BK414.out 1;have hfz87_2:=blk_frozen BK414.out 2)|((with_reducible refine gate_callee (f:=8) rfl ?_);refine goesL_ (some 27) rfl rfl Tryd.func8 (by kernel_rfl) rfl #[.agg #[.slice Ao80 t404.length co80,.slice Ao82 t407.length co82,.slice Ao83 t410.length co83]] rfl (by (try simp only [List.map_toArray,List.map_cons,List.map_nil]);first|done|rfl|(simp only [List.length_drop,List.length_take];rfl)) ?_;(with_reducible refine (impl_AnyOrder.calls k _ _ t404 _ _ t407 _ _ t410 false _ ?side1 ?side2 ?side3 ?side4 ?side5 ?side6 A16.out).mono ?_);(case side1 => exact cU (Kd.R_reads' HO406.out).2.2);(case side2 => exact (Kd.R_reads' HO406.out).2.1);(case side3 => exact cU (Kd.R_reads' HO409.out).2.2);(case side4 => exact (Kd.R_reads' HO409.out).2.1);(case side5 => exact cU (Kd.R_reads' HO412.out).2.2);(case side6 => exact (Kd.R_reads' HO412.out).2.1);rintro e w88 ⟨rfl,hb⟩;refine ⟨_,rfl,?_⟩;have n0_:=Aside0.mk (Kd.R_below (rU HO406.out) hb);have n1_:=Aside0.mk (Kd.R_below (rU HO409.out) hb);have n2_:=Aside0.mk (Kd.R_below (rU HO412.out) hb);have n3_:=Aside0.mk (blk_below (g:=gb414) (o:=.cells #[.slice Ao80 t404.length co80,.slice Ao82 t407.length co82,.slice Ao83 t410.length co83] 25 (0,0)) (blkU BK414.out) hb);have n4_:=Aside0.mk (below_step (by repeat (first|(with_reducible first|exact HB.out|apply below_alloc|apply pw_below_drewN|apply below_drew1|refine below_set ?_ GE414.out)|exact HB.out)) hb);clear HO406 HO409 HO412 BK414 HB;have HO406:=n0_;have HO409:=n1_;have HO412:=n2_;have BK414:=n3_;have HB:=n4_;clear n0_ n1_ n2_ n3_ n4_;(try clear hb);(try clear hb2);(try clear hk);(try clear hi))|((with_reducible refine gate_callee (f:=9) rfl ?_);refine goesL_ (some 29) rfl rfl Tryd.func9 (by kernel_rfl) rfl #[] rfl (by (try simp only [List.map_toArray,List.map_cons,List.map_nil]);first|done|rfl|(simp only [List.length_drop,List.length_take];rfl)) ?_;(with_reducible refine (laws_alive.calls  t418 _ A77.out).mono ?_);rintro e w' ⟨rfl,⟨nd,rfl⟩⟩;refine ⟨_,rfl,?_⟩))
    go_ret
    exact ⟨by first|rfl|(simp [errW_none,errW_some] <;> rfl)|(simp [*,errW_none,errW_some] <;> rfl),by repeat (first|(with_reducible first|exact HB.out|apply below_alloc|apply pw_below_drewN|apply below_drew1|refine below_set ?_ GE414.out)|exact HB.out)⟩

/-- THE ONE PURE STATEMENT of laws_FnSaysYes: yours. -/
def laws_FnSaysYes.Pure : Prop:=∀ (l0 : List Int),l0.length ≤ maxLen → l0.length * 1 ≤ 140737488351232 → (∀ x ∈ l0,(Lit.int .u8 x).wf = true) → ∃ k,laws_FnSaysYes.f k l0 = some true
end Go.Proofs.YthodcgkhianecaaDoor.PA
