/- The machine side of functions of this seat, written by the session's program myprint.py: for each Go function a Lean function and the proof that the call answers just it. -/
import Derived.Test.YtmeamfkjfpaciaaPAx0
import Derived.Test.YtmeamfkjfpaciaaUp
import Derived.Test.YtmeamfkjfpaciaaPAx5
import Derived.Test.YtmeamfkjfpaciaaPAx28
namespace Go.Proofs.Ytmeamfkjfpaciaa.PA
open Go.RowKit Go.Proofs.YtmeamfkjfpaciaaW.PrintWords Go.Proofs.YtmeamfkjfpaciaaW.PrintLast Go.Proofs.YtmeamfkjfpaciaaW.PrintMore
attribute [local go_sem] max2_int min2_int max_two min_two max_three min_three max_four min_four   -- for this text's walks alone
set_option linter.unusedVariables false
set_option linter.unusedSimpArgs false

/-! ### spec_RelationFrom: function 18 -/
mutual
def spec_RelationFrom.j0 : Nat → Int → List Int → List Int → Bool → Option (List Int)
 | 0,_,_,_,_ => none
 | k + 1,x0,x1,x5,x16 => if x16 = true then (some x5) else (spec_RelationFrom.l0 k x0 x1 x5 0)
def spec_RelationFrom.l0 : Nat → Int → List Int → List Int → Int → Option (List Int)
 | 0,_,_,_,_ => none
 | k + 1,x0,x1,x5,x6 => if 0 ≤ x0 then (if x6 < (shl .i64 1 x0) then (spec_RelationFrom.l1 k x0 x1 x5 x6 0) else (some x5)) else (none)
def spec_RelationFrom.l1 : Nat → Int → List Int → List Int → Int → Int → Option (List Int)
 | 0,_,_,_,_,_ => none
 | k + 1,x0,x1,x5,x6,x7 => if 0 ≤ x0 then (if x7 < (shl .i64 1 x0) then ((spec_l2Size.f k x6).bind fun t400 => ((spec_l2Both.f k x6 x7).bind fun t401 => ((spec_l2Size.f k t401).bind fun t402 => ((spec_PlaceOf.f t400 t402).bind fun t403 => (if 0 ≤ t403 then (if t403 < (x1.length : Int) then (if x5.length < 17592186044416 then (spec_RelationFrom.l1 k x0 x1 (x5 ++ [rd x1 t403]) x6 (wrap64 (x7 + 1))) else (none)) else (none)) else (none)))))) else (spec_RelationFrom.l0 k x0 x1 x5 (wrap64 (x6 + 1)))) else (none)
end
def spec_RelationFrom.f (k : Nat) (a0 : Int) (l1 : List Int) : Option (List Int):=(some (([] : List Int) : List Int)).bind fun y395 => ((spec_l1In.f a0 0 3).bind fun t398 => (if t398 = true then ((spec_TriangleOk.f k l1).bind fun t399 => (spec_RelationFrom.j0 k a0 l1 y395 (!t399))) else (spec_RelationFrom.j0 k a0 l1 y395 true)))
theorem spec_RelationFrom.mono_l : ∀ k,(∀ y0 y1 y2 y3,LeO (spec_RelationFrom.j0 k y0 y1 y2 y3) (spec_RelationFrom.j0 (k + 1) y0 y1 y2 y3)) ∧ (∀ y0 y1 y2 y3,LeO (spec_RelationFrom.l0 k y0 y1 y2 y3) (spec_RelationFrom.l0 (k + 1) y0 y1 y2 y3)) ∧ (∀ y0 y1 y2 y3 y4,LeO (spec_RelationFrom.l1 k y0 y1 y2 y3 y4) (spec_RelationFrom.l1 (k + 1) y0 y1 y2 y3 y4))
 | 0 => ⟨fun _ _ _ _ r h => by simp [spec_RelationFrom.j0] at h,fun _ _ _ _ r h => by simp [spec_RelationFrom.l0] at h,fun _ _ _ _ _ r h => by simp [spec_RelationFrom.l1] at h⟩
 | k + 1 => by
  obtain ⟨ih0,ih1,ih2⟩:=spec_RelationFrom.mono_l k
  refine ⟨?_,?_,?_⟩
  ·
   intro y0 y1 y2 y3
   unfold spec_RelationFrom.j0
   repeat' first
   | (with_reducible exact ih0 _ _ _ _)
   | (with_reducible exact ih1 _ _ _ _)
   | (with_reducible exact ih2 _ _ _ _ _)
   | (with_reducible exact spec_TriangleOk.mono _ _)
   | (with_reducible exact spec_l2Both.mono _ _ _)
   | (with_reducible exact spec_l2Size.mono _ _)
   | (with_reducible exact LeO.refl _)
   | (with_reducible exact LeO.none _)
   | (with_reducible refine LeO.ite ?_ ?_)
   | (with_reducible refine LeO.bind ?_ (fun _ => ?_))
   | exact ih0 _ _ _ _
   | exact ih1 _ _ _ _
   | exact ih2 _ _ _ _ _
   | exact spec_TriangleOk.mono _ _
   | exact spec_l2Both.mono _ _ _
   | exact spec_l2Size.mono _ _
   | exact LeO.none _
   | refine LeO.ite ?_ ?_
   | refine LeO.bind ?_ (fun _ => ?_)
  ·
   intro y0 y1 y2 y3
   unfold spec_RelationFrom.l0
   repeat' first
   | (with_reducible exact ih0 _ _ _ _)
   | (with_reducible exact ih1 _ _ _ _)
   | (with_reducible exact ih2 _ _ _ _ _)
   | (with_reducible exact spec_TriangleOk.mono _ _)
   | (with_reducible exact spec_l2Both.mono _ _ _)
   | (with_reducible exact spec_l2Size.mono _ _)
   | (with_reducible exact LeO.refl _)
   | (with_reducible exact LeO.none _)
   | (with_reducible refine LeO.ite ?_ ?_)
   | (with_reducible refine LeO.bind ?_ (fun _ => ?_))
   | exact ih0 _ _ _ _
   | exact ih1 _ _ _ _
   | exact ih2 _ _ _ _ _
   | exact spec_TriangleOk.mono _ _
   | exact spec_l2Both.mono _ _ _
   | exact spec_l2Size.mono _ _
   | exact LeO.none _
   | refine LeO.ite ?_ ?_
   | refine LeO.bind ?_ (fun _ => ?_)
  ·
   intro y0 y1 y2 y3 y4
   unfold spec_RelationFrom.l1
   repeat' first
   | (with_reducible exact ih0 _ _ _ _)
   | (with_reducible exact ih1 _ _ _ _)
   | (with_reducible exact ih2 _ _ _ _ _)
   | (with_reducible exact spec_TriangleOk.mono _ _)
   | (with_reducible exact spec_l2Both.mono _ _ _)
   | (with_reducible exact spec_l2Size.mono _ _)
   | (with_reducible exact LeO.refl _)
   | (with_reducible exact LeO.none _)
   | (with_reducible refine LeO.ite ?_ ?_)
   | (with_reducible refine LeO.bind ?_ (fun _ => ?_))
   | exact ih0 _ _ _ _
   | exact ih1 _ _ _ _
   | exact ih2 _ _ _ _ _
   | exact spec_TriangleOk.mono _ _
   | exact spec_l2Both.mono _ _ _
   | exact spec_l2Size.mono _ _
   | exact LeO.none _
   | refine LeO.ite ?_ ?_
   | refine LeO.bind ?_ (fun _ => ?_)
theorem spec_RelationFrom.mono : ∀ a0 a1 k,LeO (spec_RelationFrom.f k a0 a1) (spec_RelationFrom.f (k + 1) a0 a1):=by
 intro a0 a1 k
 obtain ⟨ih0,ih1,ih2⟩:=spec_RelationFrom.mono_l k
 unfold spec_RelationFrom.f
 repeat' first
   | (with_reducible exact ih0 _ _ _ _)
   | (with_reducible exact ih1 _ _ _ _)
   | (with_reducible exact ih2 _ _ _ _ _)
   | (with_reducible exact spec_TriangleOk.mono _ _)
   | (with_reducible exact spec_l2Both.mono _ _ _)
   | (with_reducible exact spec_l2Size.mono _ _)
   | (with_reducible exact LeO.refl _)
   | (with_reducible exact LeO.none _)
   | (with_reducible refine LeO.ite ?_ ?_)
   | (with_reducible refine LeO.bind ?_ (fun _ => ?_))
   | exact ih0 _ _ _ _
   | exact ih1 _ _ _ _
   | exact ih2 _ _ _ _ _
   | exact spec_TriangleOk.mono _ _
   | exact spec_l2Both.mono _ _ _
   | exact spec_l2Size.mono _ _
   | exact LeO.none _
   | refine LeO.ite ?_ ?_
   | refine LeO.bind ?_ (fun _ => ?_)
set_option maxHeartbeats 8000000 in
set_option maxRecDepth 100000 in
theorem spec_RelationFrom.calls (k : Nat) (a0 : Int) (A1 : Option Addr) (c1 : Nat) (l1 : List Int) (r : List Int) (w : World) (hr1 : Kd.C (Kd.int .i64) w A1 l1.length l1) (hc1 : l1.length ≤ c1) (h : spec_RelationFrom.f k a0 l1 = some r) :
  Calls Try.prog 18 #[.int .i64 a0,.slice A1 l1.length c1] w fun e w' => ∃ v0_ : Value,e = .returned (v0_) ∧ Kd.R (Kd.int .i64) 3 w' w.heap.size (fun _ => True) v0_ r ∧ Below w.heap.size w w':=by
 have HR1:=Aside0.mk hr1
 have HC1:=Aside0.mk hc1;clear hr1 hc1;have HB:=Aside0.mk (Below.refl w.heap.size w)
 have H : ((some (([] : List Int) : List Int)).bind fun y395 => ((spec_l1In.f a0 0 3).bind fun t398 => (if t398 = true then ((spec_TriangleOk.f k l1).bind fun t399 => (spec_RelationFrom.j0 k a0 l1 y395 (!t399))) else (spec_RelationFrom.j0 k a0 l1 y395 true)))) = some r:=h;clear h
 obtain ⟨y395,hy395⟩ : ∃ y_ : List Int,y_ = (([] : List Int)):=⟨_,rfl⟩
 replace H : ((spec_l1In.f a0 0 3).bind fun t398 => (if t398 = true then ((spec_TriangleOk.f k l1).bind fun t399 => (spec_RelationFrom.j0 k a0 l1 y395 (!t399))) else (spec_RelationFrom.j0 k a0 l1 y395 true))) = some r:=by first|(rw [hy395];with_reducible exact H)|(have H2_:=(Option.bind_some _ _).symm.trans H;rw [hy395];with_reducible exact H2_)|(have H2_:=(Option.bind_some _ _).symm.trans H;with_reducible exact H2_)|with_reducible exact H|(rw [hy395];exact H)|exact H
 have Ny395:=Aside0.mk hy395;clear hy395
 have HC3:=Aside0.mk H;clear H
 go_enter Try.func18,Try.ntmps18
 go_upto_region 2 with (first|((with_reducible refine gate_dst (N:=8) rfl ?_);refine Kd.R_lit (Kd.int .i64) _ 3 ?hg (N:=8) ?hd (xs:=([] : List Int)) (inner:=[]) (ok:=fun _ => True) (okp:=fun _ => True) ?hr ?hp (fun _ hk => hk) trivial (Below.refl _ _) (Nat.le_refl _) (by simp) ?_;(case hd => rfl);(case hg => rfl);(case hr => first|(go_simp;done)|(go_simp;rfl));(case hp => exact (Reps.none _ _));intro v396 w4 ho5 hb hg_ hnew_;clear hg_ hnew_;(first|rw [← Ny395.out] at ho5|(simp only [Int.reduceToNat] at ho5;rw [← Ny395.out] at ho5));have n0_:=Aside0.mk (Kd.R_lower ho5 (below_size (belU HB.out)));have n1_:=Aside0.mk (below_step (belU HB.out) hb);clear HB;have HO397:=n0_;have HB:=n1_;clear n0_ n1_ hb ho5))
 (try simp only [Act.put,List.setIfInBounds_toArray,List.set_cons_zero,List.set_cons_succ])
 go_cut [16] (fun v16 wc => ∃ (kq : Nat) (x16_2 : Bool),v16 = .bool x16_2 ∧ Aside0 (spec_RelationFrom.j0 kq a0 l1 y395 x16_2 = some r) ∧ Aside0 (kq ≤ k) ∧ Aside0 (Kd.R (Kd.int .i64) 3 wc w.heap.size (fun _ => True) v396 y395) ∧ Aside0 (Below w.heap.size w wc))
 case first =>
  have H:=HC3.out;clear HC3
  replace H:=Option.bind_eq_some_iff.mp H
  obtain ⟨t398,A60,H⟩:=H
  replace H : (if t398 = true then ((spec_TriangleOk.f k l1).bind fun t399 => (spec_RelationFrom.j0 k a0 l1 y395 (!t399))) else (spec_RelationFrom.j0 k a0 l1 y395 true)) = some r:=H
  have A6:=Aside0.mk A60;clear A60
  by_cases c7 : t398 = true
  ·
   subst c7
   have H1 : ((spec_TriangleOk.f k l1).bind fun t399 => (spec_RelationFrom.j0 k a0 l1 y395 (!t399))) = some r:=by rw [if_pos rfl] at H;exact H
   clear H;have H:=H1;clear H1
   replace H:=Option.bind_eq_some_iff.mp H
   obtain ⟨t399,A80,H⟩:=H
   replace H : (spec_RelationFrom.j0 k a0 l1 y395 (!t399)) = some r:=H
   have A8:=Aside0.mk A80;clear A80
   have H':=Aside0.mk H;clear H
   go_wp2_with (first|((with_reducible refine gate_callee (f:=37) rfl ?_);refine goesL_ (some 10) rfl rfl Try.func37 (by kernel_rfl) rfl #[.int .i64 a0,.int .i64 0,.int .i64 3] rfl (by (try simp only [List.map_toArray,List.map_cons,List.map_nil]);first|done|rfl|(simp only [List.length_drop,List.length_take];rfl)) ?_;(with_reducible refine (spec_l1In.calls a0 0 3 true _ A6.out).mono ?_);rintro e w' ⟨rfl,⟨nd,rfl⟩⟩;refine ⟨_,rfl,?_⟩)|(go_at_call 17;(with_reducible refine (spec_TriangleOk.calls k _ _ l1 t399 _ ?side1 ?side2 A8.out).mono ?_);(case side1 => repeat (first|exact (Kd.C_below HR1.out (belU HB.out))|(with_reducible refine Kd.C_alloc ?_ _)|(with_reducible refine Kd.C_drewN ?_ _)|(with_reducible refine Kd.C_drew ?_)));(case side2 => exact HC1.out);rintro e w' ⟨rfl,⟨nd,rfl⟩⟩))
   go_meet
   case rel => exact ⟨_,(!t399),(by first|rfl|(simp;done)|(simp [*];done)),H',⟨by first|omega|exact Nat.le_refl _⟩,⟨rU HO397.out⟩,⟨belU HB.out⟩⟩
  ·
   replace c7:=Bool.eq_false_iff.mpr c7;subst c7
   have H1 : (spec_RelationFrom.j0 k a0 l1 y395 true) = some r:=by rw [if_neg (show ¬ (false = true) by decide)] at H;exact H
   clear H;have H:=H1;clear H1
   have H':=Aside0.mk H;clear H
   go_wp2_with (first|((with_reducible refine gate_callee (f:=37) rfl ?_);refine goesL_ (some 10) rfl rfl Try.func37 (by kernel_rfl) rfl #[.int .i64 a0,.int .i64 0,.int .i64 3] rfl (by (try simp only [List.map_toArray,List.map_cons,List.map_nil]);first|done|rfl|(simp only [List.length_drop,List.length_take];rfl)) ?_;(with_reducible refine (spec_l1In.calls a0 0 3 false _ A6.out).mono ?_);rintro e w' ⟨rfl,⟨nd,rfl⟩⟩;refine ⟨_,rfl,?_⟩))
   go_meet
   case rel => exact ⟨_,(true),(by first|rfl|(simp;done)|(simp [*];done)),H',⟨by first|omega|exact Nat.le_refl _⟩,⟨rU HO397.out⟩,⟨belU HB.out⟩⟩
 case rest =>
  clear HC3
  try clear c1
  try clear p2
  try clear c3
  try clear c7
  obtain ⟨kq,x16_2,rfl,HA,HJ2,HO_5,HB⟩:=hcut
  cases kq with
  | zero => exact absurd HA.out (by simp [spec_RelationFrom.j0])
  | succ kj2 =>
   have H:=HA.out;clear HA
   simp only [spec_RelationFrom.j0] at H
   by_cases c9 : x16_2 = true
   ·
    subst c9
    have H1 : (some y395) = some r:=by rw [if_pos rfl] at H;exact H
    clear H;have H:=H1;clear H1
    obtain rfl:=Option.some.inj H
    go_wp2
    go_ret
    exact ⟨_,by first|rfl|(simp [errW_none,errW_some] <;> rfl)|(simp [*,errW_none,errW_some] <;> rfl),rU HO_5.out,belU HB.out⟩
   ·
    replace c9:=Bool.eq_false_iff.mpr c9;subst c9
    have H1 : (spec_RelationFrom.l0 kj2 a0 l1 y395 0) = some r:=by rw [if_neg (show ¬ (false = true) by decide)] at H;exact H
    clear H;have H:=H1;clear H1
    have H':=Aside0.mk H;clear H
    go_wp2
    go_loopg [5,6] kj2 (fun kq v5 v6 w' => ∃ (x5_2 : List Int) (x6_2 : Int),v6 = .int .i64 x6_2 ∧ Aside0 (spec_RelationFrom.l0 kq a0 l1 x5_2 x6_2 = some r) ∧ Aside0 (kq ≤ kj2) ∧ Aside0 (Kd.R (Kd.int .i64) 3 w' w.heap.size (fun _ => True) v5 x5_2) ∧ Aside0 (Below w.heap.size w w'))
    case atStart => exact ⟨(y395),(0),(by first|rfl|(simp;done)|(simp [*];done)),H',⟨Nat.le_refl _⟩,⟨rU HO_5.out⟩,⟨belU HB.out⟩⟩
    case round =>
     clear H'
     try clear c1
     try clear p2
     try clear c3
     try clear c7
     try clear c9
     try clear p2
     obtain ⟨x5_2,x6_2,rfl,HA,HK2,HO_5,HB⟩:=hrel
     cases gk with
     | zero => exact absurd HA.out (by simp [spec_RelationFrom.l0])
     | succ k2 =>
      have H:=HA.out;clear HA
      simp only [spec_RelationFrom.l0] at H
      by_cases c10 : 0 ≤ a0
      ·
       rw [if_pos c10] at H
       have c10b0:=eq_true c10
       have c10b1 : decide (0 ≤ a0) = true:=decide_eq_true c10;clear c10
       obtain ⟨ji11,hji11⟩ : ∃ j_ : Int,(shl .i64 1 a0) = j_:=⟨_,rfl⟩
       replace H : (if x6_2 < (ji11) then (spec_RelationFrom.l1 k2 a0 l1 x5_2 x6_2 0) else (some x5_2)) = some r:=by first|(rw [hji11] at H;exact H)|(simp only [hji11] at H ⊢;exact H)
       have hji11_ : (IntKind.i64.wrap (1 * 2 ^ min a0.toNat 64)) = ji11:=hji11
       have hji11z : a0 ≤ 64 → (IntKind.i64.wrap (1 * 2 ^ a0.toNat)) = ji11:=shl_small hji11
       have hji11u : (IntKind.i64.wrap (2 ^ min a0.toNat 64)) = ji11:=by have h_:=hji11_;rw [Int.one_mul] at h_;exact h_
       have hji11v : a0 ≤ 64 → (IntKind.i64.wrap (2 ^ a0.toNat)) = ji11:=fun hle_ => by have h_:=hji11z hle_;rw [Int.one_mul] at h_;exact h_
       have hji11y : (wrap64 (1 * 2 ^ min a0.toNat 64)) = ji11:=(i64_w _).symm.trans hji11_
       have hji11x : a0 ≤ 64 → (wrap64 (1 * 2 ^ a0.toNat)) = ji11:=fun h_ => (i64_w _).symm.trans (hji11z h_)
       by_cases c12 : x6_2 < (ji11)
       ·
        rw [if_pos c12] at H
        have c12b0 : decide (x6_2 < (ji11)) = true:=decide_eq_true c12;clear c12
        have H':=Aside0.mk H;clear H
        go_wp2
        go_loopg [5,7] k2 (fun kq v5 v7 w' => ∃ (x5_3 : List Int) (x7_3 : Int),v7 = .int .i64 x7_3 ∧ Aside0 (spec_RelationFrom.l1 kq a0 l1 x5_3 x6_2 x7_3 = some r) ∧ Aside0 (kq ≤ k2) ∧ Aside0 (Kd.R (Kd.int .i64) 3 w' w.heap.size (fun _ => True) v5 x5_3) ∧ Aside0 (Below w.heap.size w w'))
        case atStart => exact ⟨(x5_2),(0),(by first|rfl|(simp;done)|(simp [*];done)),H',⟨Nat.le_refl _⟩,⟨rU HO_5.out⟩,⟨belU HB.out⟩⟩
        case round =>
         clear H'
         try clear c1
         try clear p2
         try clear c3
         try clear p6
         try clear c7
         try clear c9
         try clear c10
         try clear c10b0
         try clear c10b1
         try clear c12
         try clear c12b0
         try clear p2
         obtain ⟨x5_3,x7_3,rfl,HA,HK3,HO_5,HB⟩:=hrel
         cases gk with
         | zero => exact absurd HA.out (by simp [spec_RelationFrom.l1])
         | succ k3 =>
          have H:=HA.out;clear HA
          simp only [spec_RelationFrom.l1] at H
          by_cases c13 : 0 ≤ a0
          ·
           rw [if_pos c13] at H
           have c13b0:=eq_true c13
           have c13b1 : decide (0 ≤ a0) = true:=decide_eq_true c13;clear c13
           replace H : (if x7_3 < (ji11) then ((spec_l2Size.f k3 x6_2).bind fun t400 => ((spec_l2Both.f k3 x6_2 x7_3).bind fun t401 => ((spec_l2Size.f k3 t401).bind fun t402 => ((spec_PlaceOf.f t400 t402).bind fun t403 => (if 0 ≤ t403 then (if t403 < (l1.length : Int) then (if x5_3.length < 17592186044416 then (spec_RelationFrom.l1 k3 a0 l1 (x5_3 ++ [rd l1 t403]) x6_2 (wrap64 (x7_3 + 1))) else (none)) else (none)) else (none)))))) else (spec_RelationFrom.l0 k3 a0 l1 x5_3 (wrap64 (x6_2 + 1)))) = some r:=by first|(rw [hji11] at H;exact H)|(simp only [hji11] at H ⊢;exact H)
           by_cases c15 : x7_3 < (ji11)
           ·
            rw [if_pos c15] at H
            have c15b0 : decide (x7_3 < (ji11)) = true:=decide_eq_true c15;clear c15
            replace H:=Option.bind_eq_some_iff.mp H
            obtain ⟨t400,A160,H⟩:=H
            replace H : ((spec_l2Both.f k3 x6_2 x7_3).bind fun t401 => ((spec_l2Size.f k3 t401).bind fun t402 => ((spec_PlaceOf.f t400 t402).bind fun t403 => (if 0 ≤ t403 then (if t403 < (l1.length : Int) then (if x5_3.length < 17592186044416 then (spec_RelationFrom.l1 k3 a0 l1 (x5_3 ++ [rd l1 t403]) x6_2 (wrap64 (x7_3 + 1))) else (none)) else (none)) else (none))))) = some r:=H
            have A16:=Aside0.mk A160;clear A160
            replace H:=Option.bind_eq_some_iff.mp H
            obtain ⟨t401,A170,H⟩:=H
            replace H : ((spec_l2Size.f k3 t401).bind fun t402 => ((spec_PlaceOf.f t400 t402).bind fun t403 => (if 0 ≤ t403 then (if t403 < (l1.length : Int) then (if x5_3.length < 17592186044416 then (spec_RelationFrom.l1 k3 a0 l1 (x5_3 ++ [rd l1 t403]) x6_2 (wrap64 (x7_3 + 1))) else (none)) else (none)) else (none)))) = some r:=H
            have A17:=Aside0.mk A170;clear A170
            replace H:=Option.bind_eq_some_iff.mp H
            obtain ⟨t402,A180,H⟩:=H
            replace H : ((spec_PlaceOf.f t400 t402).bind fun t403 => (if 0 ≤ t403 then (if t403 < (l1.length : Int) then (if x5_3.length < 17592186044416 then (spec_RelationFrom.l1 k3 a0 l1 (x5_3 ++ [rd l1 t403]) x6_2 (wrap64 (x7_3 + 1))) else (none)) else (none)) else (none))) = some r:=H
            have A18:=Aside0.mk A180;clear A180
            replace H:=Option.bind_eq_some_iff.mp H
            obtain ⟨t403,A190,H⟩:=H
            replace H : (if 0 ≤ t403 then (if t403 < (l1.length : Int) then (if x5_3.length < 17592186044416 then (spec_RelationFrom.l1 k3 a0 l1 (x5_3 ++ [rd l1 t403]) x6_2 (wrap64 (x7_3 + 1))) else (none)) else (none)) else (none)) = some r:=H
            have A19:=Aside0.mk A190;clear A190
            by_cases c20 : 0 ≤ t403
            ·
             rw [if_pos c20] at H
             have c20b0 : decide (0 ≤ t403) = true:=decide_eq_true c20;clear c20
             by_cases c21 : t403 < (l1.length : Int)
             ·
              rw [if_pos c21] at H
              have c21b0 : decide (t403 < (l1.length : Int)) = true:=decide_eq_true c21;clear c21
              by_cases c22 : x5_3.length < 17592186044416
              ·
               rw [if_pos c22] at H
               have LMc22:=Aside0.mk c22;clear c22
               obtain ⟨y405,hy405⟩ : ∃ y_ : List Int,y_ = (x5_3 ++ [rd l1 t403]):=⟨_,rfl⟩
               replace H : (spec_RelationFrom.l1 k3 a0 l1 y405 x6_2 (wrap64 (x7_3 + 1))) = some r:=by first|(rw [hy405];with_reducible exact H)|(have H2_:=(Option.bind_some _ _).symm.trans H;rw [hy405];with_reducible exact H2_)|(have H2_:=(Option.bind_some _ _).symm.trans H;with_reducible exact H2_)|with_reducible exact H|(rw [hy405];exact H)|exact H
               have Ny405:=Aside0.mk hy405;clear hy405
               have H':=Aside0.mk H;clear H
               go_wp2_with (first|((with_reducible refine gate_callee (f:=38) rfl ?_);refine goesL_ (some 33) rfl rfl Try.func38 (by kernel_rfl) rfl #[.int .i64 x6_2] rfl (by (try simp only [List.map_toArray,List.map_cons,List.map_nil]);first|done|rfl|(simp only [List.length_drop,List.length_take];rfl)) ?_;(with_reducible refine (spec_l2Size.calls k3 x6_2 t400 _ A16.out).mono ?_);rintro e w' ⟨rfl,⟨nd,rfl⟩⟩;refine ⟨_,rfl,?_⟩)|((with_reducible refine gate_callee (f:=39) rfl ?_);refine goesL_ (some 36) rfl rfl Try.func39 (by kernel_rfl) rfl #[.int .i64 x6_2,.int .i64 x7_3] rfl (by (try simp only [List.map_toArray,List.map_cons,List.map_nil]);first|done|rfl|(simp only [List.length_drop,List.length_take];rfl)) ?_;(with_reducible refine (spec_l2Both.calls k3 x6_2 x7_3 t401 _ A17.out).mono ?_);rintro e w' ⟨rfl,⟨nd,rfl⟩⟩;refine ⟨_,rfl,?_⟩)|((with_reducible refine gate_callee (f:=38) rfl ?_);refine goesL_ (some 37) rfl rfl Try.func38 (by kernel_rfl) rfl #[.int .i64 t401] rfl (by (try simp only [List.map_toArray,List.map_cons,List.map_nil]);first|done|rfl|(simp only [List.length_drop,List.length_take];rfl)) ?_;(with_reducible refine (spec_l2Size.calls k3 t401 t402 _ A18.out).mono ?_);rintro e w' ⟨rfl,⟨nd,rfl⟩⟩;refine ⟨_,rfl,?_⟩)|((with_reducible refine gate_callee (f:=28) rfl ?_);refine goesL_ (some 38) rfl rfl Try.func28 (by kernel_rfl) rfl #[.int .i64 t400,.int .i64 t402] rfl (by (try simp only [List.map_toArray,List.map_cons,List.map_nil]);first|done|rfl|(simp only [List.length_drop,List.length_take];rfl)) ?_;(with_reducible refine (spec_PlaceOf.calls t400 t402 t403 _ A19.out).mono ?_);rintro e w' ⟨rfl,⟨nd,rfl⟩⟩;refine ⟨_,rfl,?_⟩;have p404 : 0 ≤ (t403 : Int):=of_decide_eq_true (by first|(with_reducible assumption)|assumption);have q404 : t403 < (l1.length : Int):=of_decide_eq_true (by first|(with_reducible assumption)|assumption);obtain ⟨ad404,e404,hx404_0⟩:=Kd.at_int HR1.out t403 p404 q404;cases e404;replace hx404_0:=(HB.out.cell (World.block_lt_of_cell? w _ hx404_0)).trans hx404_0;replace p404:=eq_true p404;replace q404:=eq_true q404)|((with_reducible refine gate_builtin (b:=.append) (xs:=#[.tmp 30,.tmp 41]) rfl ?_);at_builtin;refine Kd.R_append (Kd.int .i64) (w0:=w) w.heap.size rfl (.tmp 30) (.tmp 41) 23 3 (.int .i64 0) 8 rfl Try.underlying23 info3 rfl (by decide) (by omega) u5 x5_3 (rd l1 t403) [.int .i64 (rd l1 t403)] (fun _ => True) (fun _ => False) rfl rfl ?aP (fun _ hk => hk.elim) ?aF ?aO ?aB ?aS ?aL ?_;(case aP => exact rfl);(case aB => exact (belU HB.out));(case aF => exact (fun _ _ => trivial));(case aO => exact (rU HO_5.out));(case aS => exact (below_size (belU HB.out)));(case aL => have:=LMc22.out;omega);intro v406 w23 ho hb hg hat;rw [← Ny405.out] at ho;have n0_:=Aside0.mk (hb);have n1_:=Aside0.mk (ho);clear HB HO_5;have HB:=n0_;have HO407:=n1_;clear n0_ n1_ ho hb hg hat))
               go_roundg k3
               case measure => have:=HJ2.out;have:=HK2.out;have:=HK3.out;omega
               case rel => exact ⟨(y405),(wrap64 (x7_3 + 1)),(by first|rfl|(simp;done)|(simp [*];done)),H',⟨by have:=HJ2.out;have:=HK2.out;have:=HK3.out;omega⟩,⟨rU HO407.out⟩,⟨belU HB.out⟩⟩
              ·
               rw [if_neg c22] at H
               exact absurd H (by simp)
             ·
              rw [if_neg c21] at H
              exact absurd H (by simp)
            ·
             rw [if_neg c20] at H
             exact absurd H (by simp)
           ·
            rw [if_neg c15] at H
            have c15b0 : decide (x7_3 < (ji11)) = false:=decide_eq_false c15;clear c15
            have H':=Aside0.mk H;clear H
            go_wp2
            go_roundg k3
            case measure => have:=HJ2.out;have:=HK2.out;have:=HK3.out;omega
            case rel => exact ⟨(x5_3),(wrap64 (x6_2 + 1)),(by first|rfl|(simp;done)|(simp [*];done)),H',⟨by have:=HJ2.out;have:=HK2.out;have:=HK3.out;omega⟩,⟨rU HO_5.out⟩,⟨belU HB.out⟩⟩
          ·
           rw [if_neg c13] at H
           exact absurd H (by simp)
       ·
        rw [if_neg c12] at H
        have c12b0 : decide (x6_2 < (ji11)) = false:=decide_eq_false c12;clear c12
        obtain rfl:=Option.some.inj H
        go_wp2
        go_ret
        exact ⟨_,by first|rfl|(simp [errW_none,errW_some] <;> rfl)|(simp only [← hji11];first|rfl|(simp [errW_none,errW_some] <;> rfl))|(simp [*,errW_none,errW_some] <;> rfl),rU HO_5.out,belU HB.out⟩
      ·
       rw [if_neg c10] at H
       exact absurd H (by simp)

end Go.Proofs.Ytmeamfkjfpaciaa.PA
