/- The machine side of functions of this seat, written by the session's program myprint.py: for each Go function a Lean function and the proof that the call answers just it. -/
import Derived.Test.YtmeamfkjfpaciaaPAx0
import Derived.Test.YtmeamfkjfpaciaaUp
import Derived.Test.YtmeamfkjfpaciaaPAx5
import Derived.Test.YtmeamfkjfpaciaaPAx16
namespace Go.Proofs.Ytmeamfkjfpaciaa.PA
open Go.RowKit Go.Proofs.YtmeamfkjfpaciaaW.PrintWords Go.Proofs.YtmeamfkjfpaciaaW.PrintLast Go.Proofs.YtmeamfkjfpaciaaW.PrintMore
attribute [local go_sem] max2_int min2_int max_two min_two max_three min_three max_four min_four   -- for this text's walks alone
set_option linter.unusedVariables false
set_option linter.unusedSimpArgs false

/-! ### spec_SplitOf: function 7 -/
mutual
def spec_SplitOf.l0 : Nat → List Int → List Int → List Int → Int → Option (List Int × List Int × Bool)
 | 0,_,_,_,_ => none
 | k + 1,x0,x5,x6,x7 => if x7 ≤ 5 then (spec_SplitOf.l1 k x0 x5 x6 x7 0) else (some (x5,x6,true))
def spec_SplitOf.l1 : Nat → List Int → List Int → List Int → Int → Int → Option (List Int × List Int × Bool)
 | 0,_,_,_,_,_ => none
 | k + 1,x0,x5,x6,x7,x8 => if x8 ≤ x7 then (spec_SplitOf.l2 k x0 x5 x6 x7 x8 0 0 0) else (spec_SplitOf.l0 k x0 x5 x6 (wrap64 (x7 + 1)))
def spec_SplitOf.l2 : Nat → List Int → List Int → List Int → Int → Int → Int → Int → Int → Option (List Int × List Int × Bool)
 | 0,_,_,_,_,_,_,_,_ => none
 | k + 1,x0,x5,x6,x7,x8,x9,x10,x11 => if x11 ≤ x7 then (if x11 ≤ x8 then ((spec_PlaceOf.f x7 x11).bind fun t334 => (if 0 ≤ t334 then (if t334 < (x0.length : Int) then (if x11 ≥ x8 then ((spec_PlaceOf.f x7 x11).bind fun t336 => (if 0 ≤ t336 then (if t336 < (x0.length : Int) then (spec_SplitOf.l2 k x0 x5 x6 x7 x8 (mx x9 (rd x0 t334)) (mx x10 (rd x0 t336)) (wrap64 (x11 + 1))) else (none)) else (none))) else (spec_SplitOf.l2 k x0 x5 x6 x7 x8 (mx x9 (rd x0 t334)) x10 (wrap64 (x11 + 1)))) else (none)) else (none))) else (if x11 ≥ x8 then ((spec_PlaceOf.f x7 x11).bind fun t338 => (if 0 ≤ t338 then (if t338 < (x0.length : Int) then (spec_SplitOf.l2 k x0 x5 x6 x7 x8 x9 (mx x10 (rd x0 t338)) (wrap64 (x11 + 1))) else (none)) else (none))) else (spec_SplitOf.l2 k x0 x5 x6 x7 x8 x9 x10 (wrap64 (x11 + 1))))) else (if x5.length < 17592186044416 then (if x6.length < 17592186044416 then (spec_SplitOf.l1 k x0 (x5 ++ [x9]) (x6 ++ [x10]) x7 (wrap64 (x8 + 1))) else (none)) else (none))
end
def spec_SplitOf.f (k : Nat) (l0 : List Int) : Option (List Int × List Int × Bool):=(some (([] : List Int) : List Int)).bind fun y321 => ((some (([] : List Int) : List Int)).bind fun y324 => ((spec_Between.f k l0).bind fun t327 => (if t327 = true then (spec_SplitOf.l0 k l0 y321 y324 0) else (some (y321,y324,false)))))
theorem spec_SplitOf.mono_l : ∀ k,(∀ y0 y1 y2 y3,LeO (spec_SplitOf.l0 k y0 y1 y2 y3) (spec_SplitOf.l0 (k + 1) y0 y1 y2 y3)) ∧ (∀ y0 y1 y2 y3 y4,LeO (spec_SplitOf.l1 k y0 y1 y2 y3 y4) (spec_SplitOf.l1 (k + 1) y0 y1 y2 y3 y4)) ∧ (∀ y0 y1 y2 y3 y4 y5 y6 y7,LeO (spec_SplitOf.l2 k y0 y1 y2 y3 y4 y5 y6 y7) (spec_SplitOf.l2 (k + 1) y0 y1 y2 y3 y4 y5 y6 y7))
 | 0 => ⟨fun _ _ _ _ r h => by simp [spec_SplitOf.l0] at h,fun _ _ _ _ _ r h => by simp [spec_SplitOf.l1] at h,fun _ _ _ _ _ _ _ _ r h => by simp [spec_SplitOf.l2] at h⟩
 | k + 1 => by
  obtain ⟨ih0,ih1,ih2⟩:=spec_SplitOf.mono_l k
  refine ⟨?_,?_,?_⟩
  ·
   intro y0 y1 y2 y3
   unfold spec_SplitOf.l0
   repeat' first
   | (with_reducible exact ih0 _ _ _ _)
   | (with_reducible exact ih1 _ _ _ _ _)
   | (with_reducible exact ih2 _ _ _ _ _ _ _ _)
   | (with_reducible exact spec_Between.mono _ _)
   | (with_reducible exact LeO.refl _)
   | (with_reducible exact LeO.none _)
   | (with_reducible refine LeO.ite ?_ ?_)
   | (with_reducible refine LeO.bind ?_ (fun _ => ?_))
   | exact ih0 _ _ _ _
   | exact ih1 _ _ _ _ _
   | exact ih2 _ _ _ _ _ _ _ _
   | exact spec_Between.mono _ _
   | exact LeO.none _
   | refine LeO.ite ?_ ?_
   | refine LeO.bind ?_ (fun _ => ?_)
  ·
   intro y0 y1 y2 y3 y4
   unfold spec_SplitOf.l1
   repeat' first
   | (with_reducible exact ih0 _ _ _ _)
   | (with_reducible exact ih1 _ _ _ _ _)
   | (with_reducible exact ih2 _ _ _ _ _ _ _ _)
   | (with_reducible exact spec_Between.mono _ _)
   | (with_reducible exact LeO.refl _)
   | (with_reducible exact LeO.none _)
   | (with_reducible refine LeO.ite ?_ ?_)
   | (with_reducible refine LeO.bind ?_ (fun _ => ?_))
   | exact ih0 _ _ _ _
   | exact ih1 _ _ _ _ _
   | exact ih2 _ _ _ _ _ _ _ _
   | exact spec_Between.mono _ _
   | exact LeO.none _
   | refine LeO.ite ?_ ?_
   | refine LeO.bind ?_ (fun _ => ?_)
  ·
   intro y0 y1 y2 y3 y4 y5 y6 y7
   unfold spec_SplitOf.l2
   repeat' first
   | (with_reducible exact ih0 _ _ _ _)
   | (with_reducible exact ih1 _ _ _ _ _)
   | (with_reducible exact ih2 _ _ _ _ _ _ _ _)
   | (with_reducible exact spec_Between.mono _ _)
   | (with_reducible exact LeO.refl _)
   | (with_reducible exact LeO.none _)
   | (with_reducible refine LeO.ite ?_ ?_)
   | (with_reducible refine LeO.bind ?_ (fun _ => ?_))
   | exact ih0 _ _ _ _
   | exact ih1 _ _ _ _ _
   | exact ih2 _ _ _ _ _ _ _ _
   | exact spec_Between.mono _ _
   | exact LeO.none _
   | refine LeO.ite ?_ ?_
   | refine LeO.bind ?_ (fun _ => ?_)
theorem spec_SplitOf.mono : ∀ a0 k,LeO (spec_SplitOf.f k a0) (spec_SplitOf.f (k + 1) a0):=by
 intro a0 k
 obtain ⟨ih0,ih1,ih2⟩:=spec_SplitOf.mono_l k
 unfold spec_SplitOf.f
 repeat' first
   | (with_reducible exact ih0 _ _ _ _)
   | (with_reducible exact ih1 _ _ _ _ _)
   | (with_reducible exact ih2 _ _ _ _ _ _ _ _)
   | (with_reducible exact spec_Between.mono _ _)
   | (with_reducible exact LeO.refl _)
   | (with_reducible exact LeO.none _)
   | (with_reducible refine LeO.ite ?_ ?_)
   | (with_reducible refine LeO.bind ?_ (fun _ => ?_))
   | exact ih0 _ _ _ _
   | exact ih1 _ _ _ _ _
   | exact ih2 _ _ _ _ _ _ _ _
   | exact spec_Between.mono _ _
   | exact LeO.none _
   | refine LeO.ite ?_ ?_
   | refine LeO.bind ?_ (fun _ => ?_)
set_option maxHeartbeats 8000000 in
set_option maxRecDepth 100000 in
theorem spec_SplitOf.calls (k : Nat) (A0 : Option Addr) (c0 : Nat) (l0 : List Int) (r1 : List Int) (r2 : List Int) (r3 : Bool) (w : World) (hr0 : Kd.C (Kd.int .i64) w A0 l0.length l0) (hc0 : l0.length ≤ c0) (h : spec_SplitOf.f k l0 = some (r1,r2,r3)) :
  Calls Try.prog 7 #[.slice A0 l0.length c0] w fun e w' => ∃ v0_ v1_ : Value,e = .returned (.tuple #[v0_,v1_,.bool r3]) ∧ Kd.R (Kd.int .i64) 3 w' w.heap.size (fun k_ => some k_ ≠ (v1_ : Value).ownBlock) v0_ r1 ∧ Kd.R (Kd.int .i64) 3 w' w.heap.size (fun k_ => some k_ ≠ (v0_ : Value).ownBlock) v1_ r2 ∧ Below w.heap.size w w':=by
 have HR0:=Aside0.mk hr0
 have HC0:=Aside0.mk hc0;clear hr0 hc0;have HB:=Aside0.mk (Below.refl w.heap.size w)
 have H : ((some (([] : List Int) : List Int)).bind fun y321 => ((some (([] : List Int) : List Int)).bind fun y324 => ((spec_Between.f k l0).bind fun t327 => (if t327 = true then (spec_SplitOf.l0 k l0 y321 y324 0) else (some (y321,y324,false)))))) = some (r1,r2,r3):=h;clear h
 obtain ⟨y321,hy321⟩ : ∃ y_ : List Int,y_ = (([] : List Int)):=⟨_,rfl⟩
 replace H : ((some (([] : List Int) : List Int)).bind fun y324 => ((spec_Between.f k l0).bind fun t327 => (if t327 = true then (spec_SplitOf.l0 k l0 y321 y324 0) else (some (y321,y324,false))))) = some (r1,r2,r3):=by first|(rw [hy321];with_reducible exact H)|(have H2_:=(Option.bind_some _ _).symm.trans H;rw [hy321];with_reducible exact H2_)|(have H2_:=(Option.bind_some _ _).symm.trans H;with_reducible exact H2_)|with_reducible exact H|(rw [hy321];exact H)|exact H
 have Ny321:=Aside0.mk hy321;clear hy321
 obtain ⟨y324,hy324⟩ : ∃ y_ : List Int,y_ = (([] : List Int)):=⟨_,rfl⟩
 replace H : ((spec_Between.f k l0).bind fun t327 => (if t327 = true then (spec_SplitOf.l0 k l0 y321 y324 0) else (some (y321,y324,false)))) = some (r1,r2,r3):=by first|(rw [hy324];with_reducible exact H)|(have H2_:=(Option.bind_some _ _).symm.trans H;rw [hy324];with_reducible exact H2_)|(have H2_:=(Option.bind_some _ _).symm.trans H;with_reducible exact H2_)|with_reducible exact H|(rw [hy324];exact H)|exact H
 have Ny324:=Aside0.mk hy324;clear hy324
 replace H:=Option.bind_eq_some_iff.mp H
 obtain ⟨t327,A20,H⟩:=H
 replace H : (if t327 = true then (spec_SplitOf.l0 k l0 y321 y324 0) else (some (y321,y324,false))) = some (r1,r2,r3):=H
 have A2:=Aside0.mk A20;clear A20
 by_cases c3 : t327 = true
 ·
  subst c3
  have H1 : (spec_SplitOf.l0 k l0 y321 y324 0) = some (r1,r2,r3):=by rw [if_pos rfl] at H;exact H
  clear H;have H:=H1;clear H1
  have H':=Aside0.mk H;clear H
  go_enter Try.func7,Try.ntmps7
  go_wp2_with (first|((with_reducible refine gate_dst (N:=12) rfl ?_);refine Kd.R_lit (Kd.int .i64) _ 3 ?hg (N:=12) ?hd (xs:=([] : List Int)) (inner:=[]) (ok:=fun _ => True) (okp:=fun _ => True) ?hr ?hp (fun _ hk => hk) trivial (Below.refl _ _) (Nat.le_refl _) (by simp) ?_;(case hd => rfl);(case hg => rfl);(case hr => first|(go_simp;done)|(go_simp;rfl));(case hp => exact (Reps.none _ _));intro v322 w4 ho5 hb hg_ hnew_;clear hg_ hnew_;(first|rw [← Ny321.out] at ho5|(simp only [Int.reduceToNat] at ho5;rw [← Ny321.out] at ho5));have n0_:=Aside0.mk (Kd.R_lower ho5 (below_size (belU HB.out)));have n1_:=Aside0.mk (below_step (belU HB.out) hb);clear HB;have HO323:=n0_;have HB:=n1_;clear n0_ n1_ hb ho5)|((with_reducible refine gate_dst (N:=13) rfl ?_);refine Kd.R_lit (Kd.int .i64) _ 3 ?hg (N:=13) ?hd (xs:=([] : List Int)) (inner:=[]) (ok:=fun _ => True) (okp:=fun _ => True) ?hr ?hp (fun _ hk => hk) trivial (Below.refl _ _) (Nat.le_refl _) (by simp) ?_;(case hd => rfl);(case hg => rfl);(case hr => first|(go_simp;done)|(go_simp;rfl));(case hp => exact (Reps.none _ _));intro v325 w6 ho7 hb hg_ hnew_;clear hg_ hnew_;(first|rw [← Ny324.out] at ho7|(simp only [Int.reduceToNat] at ho7;rw [← Ny324.out] at ho7));have n0_:=Aside0.mk (Kd.R_elder' (rU HO323.out) (Kd.R_base ho7) hb);have n1_:=Aside0.mk (Kd.R_lower (Kd.R_new' ho7 (Kd.R_lt (rU HO323.out))) (below_size (belU HB.out)));have n2_:=Aside0.mk (below_step (belU HB.out) hb);clear HO323 HB;have HO323:=n0_;have HO326:=n1_;have HB:=n2_;clear n0_ n1_ n2_ hb ho7)|((with_reducible refine gate_callee (f:=27) rfl ?_);refine goesL_ (some 15) rfl rfl Try.func27 (by kernel_rfl) rfl #[.slice A0 l0.length c0] rfl (by (try simp only [List.map_toArray,List.map_cons,List.map_nil]);first|done|rfl|(simp only [List.length_drop,List.length_take];rfl)) ?_;(with_reducible refine (spec_Between.calls k _ _ l0 true _ ?side1 ?side2 A2.out).mono ?_);(case side1 => exact cU (Kd.C_below HR0.out HB.out));(case side2 => exact HC0.out);rintro e w' ⟨rfl,⟨nd,rfl⟩⟩;refine ⟨_,rfl,?_⟩))
  go_loopg [5,6,7] k (fun kq v5 v6 v7 w' => ∃ (x5_1 : List Int) (x6_1 : List Int) (x7_1 : Int),v7 = .int .i64 x7_1 ∧ Aside0 (spec_SplitOf.l0 kq l0 x5_1 x6_1 x7_1 = some (r1,r2,r3)) ∧ Aside0 (kq ≤ k) ∧ Aside0 (Kd.R (Kd.int .i64) 3 w' w.heap.size (fun k_ => some k_ ≠ (v6 : Value).ownBlock) v5 x5_1) ∧ Aside0 (Kd.R (Kd.int .i64) 3 w' w.heap.size (fun k_ => some k_ ≠ (v5 : Value).ownBlock) v6 x6_1) ∧ Aside0 (Below w.heap.size w w'))
  case atStart => exact ⟨(y321),(y324),(0),(by first|rfl|(simp;done)|(simp [*];done)),H',⟨Nat.le_refl _⟩,⟨by (with_reducible repeat (first|apply Kd.R_alloc|apply Kd.R_drewN|apply Kd.R_drew));exact Kd.R_mono HO323.out (fun _ hk => hk.2)⟩,⟨by (with_reducible repeat (first|apply Kd.R_alloc|apply Kd.R_drewN|apply Kd.R_drew));exact Kd.R_mono HO326.out (fun _ hk => hk.2)⟩,⟨belU HB.out⟩⟩
  case round =>
   clear H'
   try clear c2
   try clear p2
   try clear c3
   try clear c7
   obtain ⟨x5_1,x6_1,x7_1,rfl,HA,HK1,HO_5,HO_6,HB⟩:=hrel
   cases gk with
   | zero => exact absurd HA.out (by simp [spec_SplitOf.l0])
   | succ k1 =>
    have H:=HA.out;clear HA
    simp only [spec_SplitOf.l0] at H
    by_cases c8 : x7_1 ≤ 5
    ·
     rw [if_pos c8] at H
     have c8b0 : decide (x7_1 ≤ 5) = true:=decide_eq_true c8;clear c8
     have H':=Aside0.mk H;clear H
     go_wp2
     go_loopg [5,6,8] k1 (fun kq v5 v6 v8 w' => ∃ (x5_2 : List Int) (x6_2 : List Int) (x8_2 : Int),v8 = .int .i64 x8_2 ∧ Aside0 (spec_SplitOf.l1 kq l0 x5_2 x6_2 x7_1 x8_2 = some (r1,r2,r3)) ∧ Aside0 (kq ≤ k1) ∧ Aside0 (Kd.R (Kd.int .i64) 3 w' w.heap.size (fun k_ => some k_ ≠ (v6 : Value).ownBlock) v5 x5_2) ∧ Aside0 (Kd.R (Kd.int .i64) 3 w' w.heap.size (fun k_ => some k_ ≠ (v5 : Value).ownBlock) v6 x6_2) ∧ Aside0 (Below w.heap.size w w'))
     case atStart => exact ⟨(x5_1),(x6_1),(0),(by first|rfl|(simp;done)|(simp [*];done)),H',⟨Nat.le_refl _⟩,⟨rU HO_5.out⟩,⟨rU HO_6.out⟩,⟨belU HB.out⟩⟩
     case round =>
      clear H'
      try clear c2
      try clear p2
      try clear c3
      try clear c7
      try clear c8
      try clear c8b0
      try clear p2
      obtain ⟨x5_2,x6_2,x8_2,rfl,HA,HK2,HO_5,HO_6,HB⟩:=hrel
      cases gk with
      | zero => exact absurd HA.out (by simp [spec_SplitOf.l1])
      | succ k2 =>
       have H:=HA.out;clear HA
       simp only [spec_SplitOf.l1] at H
       by_cases c9 : x8_2 ≤ x7_1
       ·
        rw [if_pos c9] at H
        have c9b0 : decide (x8_2 ≤ x7_1) = true:=decide_eq_true c9;clear c9
        have H':=Aside0.mk H;clear H
        go_wp2
        go_loopg [9,10,11] k2 (fun kq v9 v10 v11 w' => ∃ (x9_3 : Int) (x10_3 : Int) (x11_3 : Int),v9 = .int .i64 x9_3 ∧ v10 = .int .i64 x10_3 ∧ v11 = .int .i64 x11_3 ∧ Aside0 (spec_SplitOf.l2 kq l0 x5_2 x6_2 x7_1 x8_2 x9_3 x10_3 x11_3 = some (r1,r2,r3)) ∧ Aside0 (kq ≤ k2) ∧ Aside0 (Kd.R (Kd.int .i64) 3 w' w.heap.size (fun k_ => some k_ ≠ (u6 : Value).ownBlock) u5 x5_2) ∧ Aside0 (Kd.R (Kd.int .i64) 3 w' w.heap.size (fun k_ => some k_ ≠ (u5 : Value).ownBlock) u6 x6_2) ∧ Aside0 (Below w.heap.size w w'))
        case atStart => exact ⟨(0),(0),(0),(by first|rfl|(simp;done)|(simp [*];done)),(by first|rfl|(simp;done)|(simp [*];done)),(by first|rfl|(simp;done)|(simp [*];done)),H',⟨Nat.le_refl _⟩,⟨rU HO_5.out⟩,⟨rU HO_6.out⟩,⟨belU HB.out⟩⟩
        case round =>
         clear H'
         try clear c2
         try clear p2
         try clear c3
         try clear c7
         try clear c8
         try clear c8b0
         try clear c9
         try clear c9b0
         try clear p2
         obtain ⟨x9_3,x10_3,x11_3,rfl,rfl,rfl,HA,HK3,HO_5,HO_6,HB⟩:=hrel
         cases gk with
         | zero => exact absurd HA.out (by simp [spec_SplitOf.l2])
         | succ k3 =>
          have H:=HA.out;clear HA
          simp only [spec_SplitOf.l2] at H
          by_cases c10 : x11_3 ≤ x7_1
          ·
           rw [if_pos c10] at H
           have c10b0 : decide (x11_3 ≤ x7_1) = true:=decide_eq_true c10;clear c10
           by_cases c11 : x11_3 ≤ x8_2
           ·
            rw [if_pos c11] at H
            have c11b0 : decide (x11_3 ≤ x8_2) = true:=decide_eq_true c11;clear c11
            replace H:=Option.bind_eq_some_iff.mp H
            obtain ⟨t334,A120,H⟩:=H
            replace H : (if 0 ≤ t334 then (if t334 < (l0.length : Int) then (if x11_3 ≥ x8_2 then ((spec_PlaceOf.f x7_1 x11_3).bind fun t336 => (if 0 ≤ t336 then (if t336 < (l0.length : Int) then (spec_SplitOf.l2 k3 l0 x5_2 x6_2 x7_1 x8_2 (mx x9_3 (rd l0 t334)) (mx x10_3 (rd l0 t336)) (wrap64 (x11_3 + 1))) else (none)) else (none))) else (spec_SplitOf.l2 k3 l0 x5_2 x6_2 x7_1 x8_2 (mx x9_3 (rd l0 t334)) x10_3 (wrap64 (x11_3 + 1)))) else (none)) else (none)) = some (r1,r2,r3):=H
            have A12:=Aside0.mk A120;clear A120
            by_cases c13 : 0 ≤ t334
            ·
             rw [if_pos c13] at H
             have c13b0 : decide (0 ≤ t334) = true:=decide_eq_true c13;clear c13
             by_cases c14 : t334 < (l0.length : Int)
             ·
              rw [if_pos c14] at H
              have c14b0 : decide (t334 < (l0.length : Int)) = true:=decide_eq_true c14;clear c14
              obtain ⟨ji15,hji15⟩ : ∃ j_ : Int,(mx x9_3 (rd l0 t334)) = j_:=⟨_,rfl⟩
              replace H : (if x11_3 ≥ x8_2 then ((spec_PlaceOf.f x7_1 x11_3).bind fun t336 => (if 0 ≤ t336 then (if t336 < (l0.length : Int) then (spec_SplitOf.l2 k3 l0 x5_2 x6_2 x7_1 x8_2 ji15 (mx x10_3 (rd l0 t336)) (wrap64 (x11_3 + 1))) else (none)) else (none))) else (spec_SplitOf.l2 k3 l0 x5_2 x6_2 x7_1 x8_2 ji15 x10_3 (wrap64 (x11_3 + 1)))) = some (r1,r2,r3):=by first|(rw [hji15] at H;exact H)|(simp only [hji15] at H ⊢;exact H)
              (try rw [hji15] at A12)
              have hji15_ : (if x9_3 < (rd l0 t334) then (rd l0 t334) else x9_3) = ji15:=hji15
              by_cases c16 : x11_3 ≥ x8_2
              ·
               rw [if_pos c16] at H
               have c16b0 : decide (x8_2 ≤ x11_3) = true:=decide_eq_true c16;clear c16
               replace H:=Option.bind_eq_some_iff.mp H
               obtain ⟨t336,A170,H⟩:=H
               replace H : (if 0 ≤ t336 then (if t336 < (l0.length : Int) then (spec_SplitOf.l2 k3 l0 x5_2 x6_2 x7_1 x8_2 ji15 (mx x10_3 (rd l0 t336)) (wrap64 (x11_3 + 1))) else (none)) else (none)) = some (r1,r2,r3):=H
               have A17:=Aside0.mk A170;clear A170
               by_cases c18 : 0 ≤ t336
               ·
                rw [if_pos c18] at H
                have c18b0 : decide (0 ≤ t336) = true:=decide_eq_true c18;clear c18
                by_cases c19 : t336 < (l0.length : Int)
                ·
                 rw [if_pos c19] at H
                 have c19b0 : decide (t336 < (l0.length : Int)) = true:=decide_eq_true c19;clear c19
                 obtain ⟨ji20,hji20⟩ : ∃ j_ : Int,(mx x10_3 (rd l0 t336)) = j_:=⟨_,rfl⟩
                 replace H : (spec_SplitOf.l2 k3 l0 x5_2 x6_2 x7_1 x8_2 ji15 ji20 (wrap64 (x11_3 + 1))) = some (r1,r2,r3):=by first|(rw [hji20] at H;exact H)|(simp only [hji20] at H ⊢;exact H)
                 (try rw [hji20] at A12)
                 (try rw [hji20] at A17)
                 have hji20_ : (if x10_3 < (rd l0 t336) then (rd l0 t336) else x10_3) = ji20:=hji20
                 have H':=Aside0.mk H;clear H
                 go_wp2_with (first|((with_reducible refine gate_callee (f:=28) rfl ?_);refine goesL_ (some 40) rfl rfl Try.func28 (by kernel_rfl) rfl #[.int .i64 x7_1,.int .i64 x11_3] rfl (by (try simp only [List.map_toArray,List.map_cons,List.map_nil]);first|done|rfl|(simp only [List.length_drop,List.length_take];rfl)) ?_;(with_reducible refine (spec_PlaceOf.calls x7_1 x11_3 t334 _ A12.out).mono ?_);rintro e w' ⟨rfl,⟨nd,rfl⟩⟩;refine ⟨_,rfl,?_⟩;have p335 : 0 ≤ (t334 : Int):=of_decide_eq_true (by first|(with_reducible assumption)|assumption);have q335 : t334 < (l0.length : Int):=of_decide_eq_true (by first|(with_reducible assumption)|assumption);obtain ⟨ad335,e335,hx335_0⟩:=Kd.at_int HR0.out t334 p335 q335;cases e335;replace hx335_0:=(HB.out.cell (World.block_lt_of_cell? w _ hx335_0)).trans hx335_0;replace p335:=eq_true p335;replace q335:=eq_true q335)|((with_reducible refine gate_callee (f:=28) rfl ?_);refine goesL_ (some 51) rfl rfl Try.func28 (by kernel_rfl) rfl #[.int .i64 x7_1,.int .i64 x11_3] rfl (by (try simp only [List.map_toArray,List.map_cons,List.map_nil]);first|done|rfl|(simp only [List.length_drop,List.length_take];rfl)) ?_;(with_reducible refine (spec_PlaceOf.calls x7_1 x11_3 t336 _ A17.out).mono ?_);rintro e w' ⟨rfl,⟨nd,rfl⟩⟩;refine ⟨_,rfl,?_⟩;have p337 : 0 ≤ (t336 : Int):=of_decide_eq_true (by first|(with_reducible assumption)|assumption);have q337 : t336 < (l0.length : Int):=of_decide_eq_true (by first|(with_reducible assumption)|assumption);obtain ⟨ad337,e337,hx337_0⟩:=Kd.at_int HR0.out t336 p337 q337;obtain rfl : ad335 = ad337:=(by injection e337);replace hx337_0:=(HB.out.cell (World.block_lt_of_cell? w _ hx337_0)).trans hx337_0;replace p337:=eq_true p337;replace q337:=eq_true q337))
                 go_roundg k3
                 case measure => have:=HK1.out;have:=HK2.out;have:=HK3.out;omega
                 case rel => exact ⟨(ji15),(ji20),(wrap64 (x11_3 + 1)),(by first|rfl|(simp;done)|(simp only [← hji15] <;> (first|rfl|simp))|(simp [*];done)),(by first|rfl|(simp;done)|(simp only [← hji20] <;> (first|rfl|simp))|(simp [*];done)),(by first|rfl|(simp;done)|(simp [*];done)),H',⟨by have:=HK1.out;have:=HK2.out;have:=HK3.out;omega⟩,⟨rU HO_5.out⟩,⟨rU HO_6.out⟩,⟨belU HB.out⟩⟩
                ·
                 rw [if_neg c19] at H
                 exact absurd H (by simp)
               ·
                rw [if_neg c18] at H
                exact absurd H (by simp)
              ·
               rw [if_neg c16] at H
               have c16b0 : decide (x8_2 ≤ x11_3) = false:=decide_eq_false c16;clear c16
               have H':=Aside0.mk H;clear H
               go_wp2_with (first|((with_reducible refine gate_callee (f:=28) rfl ?_);refine goesL_ (some 40) rfl rfl Try.func28 (by kernel_rfl) rfl #[.int .i64 x7_1,.int .i64 x11_3] rfl (by (try simp only [List.map_toArray,List.map_cons,List.map_nil]);first|done|rfl|(simp only [List.length_drop,List.length_take];rfl)) ?_;(with_reducible refine (spec_PlaceOf.calls x7_1 x11_3 t334 _ A12.out).mono ?_);rintro e w' ⟨rfl,⟨nd,rfl⟩⟩;refine ⟨_,rfl,?_⟩;have p335 : 0 ≤ (t334 : Int):=of_decide_eq_true (by first|(with_reducible assumption)|assumption);have q335 : t334 < (l0.length : Int):=of_decide_eq_true (by first|(with_reducible assumption)|assumption);obtain ⟨ad335,e335,hx335_0⟩:=Kd.at_int HR0.out t334 p335 q335;cases e335;replace hx335_0:=(HB.out.cell (World.block_lt_of_cell? w _ hx335_0)).trans hx335_0;replace p335:=eq_true p335;replace q335:=eq_true q335))
               go_roundg k3
               case measure => have:=HK1.out;have:=HK2.out;have:=HK3.out;omega
               case rel => exact ⟨(ji15),(x10_3),(wrap64 (x11_3 + 1)),(by first|rfl|(simp;done)|(simp only [← hji15] <;> (first|rfl|simp))|(simp [*];done)),(by first|rfl|(simp;done)|(simp [*];done)),(by first|rfl|(simp;done)|(simp [*];done)),H',⟨by have:=HK1.out;have:=HK2.out;have:=HK3.out;omega⟩,⟨rU HO_5.out⟩,⟨rU HO_6.out⟩,⟨belU HB.out⟩⟩
             ·
              rw [if_neg c14] at H
              exact absurd H (by simp)
            ·
             rw [if_neg c13] at H
             exact absurd H (by simp)
           ·
            rw [if_neg c11] at H
            have c11b0 : decide (x11_3 ≤ x8_2) = false:=decide_eq_false c11;clear c11
            by_cases c21 : x11_3 ≥ x8_2
            ·
             rw [if_pos c21] at H
             have c21b0 : decide (x8_2 ≤ x11_3) = true:=decide_eq_true c21;clear c21
             replace H:=Option.bind_eq_some_iff.mp H
             obtain ⟨t338,A220,H⟩:=H
             replace H : (if 0 ≤ t338 then (if t338 < (l0.length : Int) then (spec_SplitOf.l2 k3 l0 x5_2 x6_2 x7_1 x8_2 x9_3 (mx x10_3 (rd l0 t338)) (wrap64 (x11_3 + 1))) else (none)) else (none)) = some (r1,r2,r3):=H
             have A22:=Aside0.mk A220;clear A220
             by_cases c23 : 0 ≤ t338
             ·
              rw [if_pos c23] at H
              have c23b0 : decide (0 ≤ t338) = true:=decide_eq_true c23;clear c23
              by_cases c24 : t338 < (l0.length : Int)
              ·
               rw [if_pos c24] at H
               have c24b0 : decide (t338 < (l0.length : Int)) = true:=decide_eq_true c24;clear c24
               obtain ⟨ji25,hji25⟩ : ∃ j_ : Int,(mx x10_3 (rd l0 t338)) = j_:=⟨_,rfl⟩
               replace H : (spec_SplitOf.l2 k3 l0 x5_2 x6_2 x7_1 x8_2 x9_3 ji25 (wrap64 (x11_3 + 1))) = some (r1,r2,r3):=by first|(rw [hji25] at H;exact H)|(simp only [hji25] at H ⊢;exact H)
               (try rw [hji25] at A22)
               have hji25_ : (if x10_3 < (rd l0 t338) then (rd l0 t338) else x10_3) = ji25:=hji25
               have H':=Aside0.mk H;clear H
               go_wp2_with (first|((with_reducible refine gate_callee (f:=28) rfl ?_);refine goesL_ (some 51) rfl rfl Try.func28 (by kernel_rfl) rfl #[.int .i64 x7_1,.int .i64 x11_3] rfl (by (try simp only [List.map_toArray,List.map_cons,List.map_nil]);first|done|rfl|(simp only [List.length_drop,List.length_take];rfl)) ?_;(with_reducible refine (spec_PlaceOf.calls x7_1 x11_3 t338 _ A22.out).mono ?_);rintro e w' ⟨rfl,⟨nd,rfl⟩⟩;refine ⟨_,rfl,?_⟩;have p339 : 0 ≤ (t338 : Int):=of_decide_eq_true (by first|(with_reducible assumption)|assumption);have q339 : t338 < (l0.length : Int):=of_decide_eq_true (by first|(with_reducible assumption)|assumption);obtain ⟨ad339,e339,hx339_0⟩:=Kd.at_int HR0.out t338 p339 q339;cases e339;replace hx339_0:=(HB.out.cell (World.block_lt_of_cell? w _ hx339_0)).trans hx339_0;replace p339:=eq_true p339;replace q339:=eq_true q339))
               go_roundg k3
               case measure => have:=HK1.out;have:=HK2.out;have:=HK3.out;omega
               case rel => exact ⟨(x9_3),(ji25),(wrap64 (x11_3 + 1)),(by first|rfl|(simp;done)|(simp [*];done)),(by first|rfl|(simp;done)|(simp only [← hji25] <;> (first|rfl|simp))|(simp [*];done)),(by first|rfl|(simp;done)|(simp [*];done)),H',⟨by have:=HK1.out;have:=HK2.out;have:=HK3.out;omega⟩,⟨rU HO_5.out⟩,⟨rU HO_6.out⟩,⟨belU HB.out⟩⟩
              ·
               rw [if_neg c24] at H
               exact absurd H (by simp)
             ·
              rw [if_neg c23] at H
              exact absurd H (by simp)
            ·
             rw [if_neg c21] at H
             have c21b0 : decide (x8_2 ≤ x11_3) = false:=decide_eq_false c21;clear c21
             have H':=Aside0.mk H;clear H
             go_wp2
             go_roundg k3
             case measure => have:=HK1.out;have:=HK2.out;have:=HK3.out;omega
             case rel => exact ⟨(x9_3),(x10_3),(wrap64 (x11_3 + 1)),(by first|rfl|(simp;done)|(simp [*];done)),(by first|rfl|(simp;done)|(simp [*];done)),(by first|rfl|(simp;done)|(simp [*];done)),H',⟨by have:=HK1.out;have:=HK2.out;have:=HK3.out;omega⟩,⟨rU HO_5.out⟩,⟨rU HO_6.out⟩,⟨belU HB.out⟩⟩
          ·
           rw [if_neg c10] at H
           have c10b0 : decide (x11_3 ≤ x7_1) = false:=decide_eq_false c10;clear c10
           by_cases c26 : x5_2.length < 17592186044416
           ·
            rw [if_pos c26] at H
            have LMc26:=Aside0.mk c26;clear c26
            obtain ⟨y328,hy328⟩ : ∃ y_ : List Int,y_ = (x5_2 ++ [x9_3]):=⟨_,rfl⟩
            replace H : (if x6_2.length < 17592186044416 then (spec_SplitOf.l1 k3 l0 y328 (x6_2 ++ [x10_3]) x7_1 (wrap64 (x8_2 + 1))) else (none)) = some (r1,r2,r3):=by first|(rw [hy328];with_reducible exact H)|(have H2_:=(Option.bind_some _ _).symm.trans H;rw [hy328];with_reducible exact H2_)|(have H2_:=(Option.bind_some _ _).symm.trans H;with_reducible exact H2_)|with_reducible exact H|(rw [hy328];exact H)|exact H
            have Ny328:=Aside0.mk hy328;clear hy328
            by_cases c27 : x6_2.length < 17592186044416
            ·
             rw [if_pos c27] at H
             have LMc27:=Aside0.mk c27;clear c27
             obtain ⟨y331,hy331⟩ : ∃ y_ : List Int,y_ = (x6_2 ++ [x10_3]):=⟨_,rfl⟩
             replace H : (spec_SplitOf.l1 k3 l0 y328 y331 x7_1 (wrap64 (x8_2 + 1))) = some (r1,r2,r3):=by first|(rw [hy331];with_reducible exact H)|(have H2_:=(Option.bind_some _ _).symm.trans H;rw [hy331];with_reducible exact H2_)|(have H2_:=(Option.bind_some _ _).symm.trans H;with_reducible exact H2_)|with_reducible exact H|(rw [hy331];exact H)|exact H
             have Ny331:=Aside0.mk hy331;clear hy331
             have H':=Aside0.mk H;clear H
             go_wp2_with (first|((with_reducible refine gate_builtin (b:=.append) (xs:=#[.tmp 55,.tmp 57]) rfl ?_);at_builtin;refine Kd.R_append (Kd.int .i64) (w0:=w) w.heap.size rfl (.tmp 55) (.tmp 57) 23 3 (.int .i64 0) 8 rfl Try.underlying23 info3 rfl (by decide) (by omega) u5 x5_2 x9_3 [.int .i64 x9_3] (fun k_ => some k_ ≠ (u6 : Value).ownBlock) (fun _ => False) rfl rfl ?aP (fun _ hk => hk.elim) ?aF ?aO ?aB ?aS ?aL ?_;(case aP => exact rfl);(case aB => exact (belU HB.out));(case aF => exact (fun k_ hk => Kd.fresh' (Kd.R_lt (rU HO_6.out)) k_ hk));(case aO => exact (rU HO_5.out));(case aS => exact (below_size (belU HB.out)));(case aL => have:=LMc26.out;omega);intro v329 w28 ho hb hg hat;rw [← Ny328.out] at ho;have n0_:=Aside0.mk (Kd.R_after (ok:=(fun _ => True)) (by (with_reducible repeat (first|apply Kd.R_alloc|apply Kd.R_drewN|apply Kd.R_drew));exact Kd.R_mono HO_6.out (fun _ hk => ⟨trivial,hk⟩)) hg hat);have n1_:=Aside0.mk (hb);have n2_:=Aside0.mk (ho);clear HO_6 HB HO_5;have HO_6:=n0_;have HB:=n1_;have HO330:=n2_;clear n0_ n1_ n2_ ho hb hg hat)|((with_reducible refine gate_builtin (b:=.append) (xs:=#[.tmp 59,.tmp 61]) rfl ?_);at_builtin;refine Kd.R_append (Kd.int .i64) (w0:=w) w.heap.size rfl (.tmp 59) (.tmp 61) 23 3 (.int .i64 0) 8 rfl Try.underlying23 info3 rfl (by decide) (by omega) u6 x6_2 x10_3 [.int .i64 x10_3] (fun k_ => some k_ ≠ (v329 : Value).ownBlock) (fun _ => False) rfl rfl ?aP (fun _ hk => hk.elim) ?aF ?aO ?aB ?aS ?aL ?_;(case aP => exact rfl);(case aB => exact (belU HB.out));(case aF => exact (fun k_ hk => Kd.fresh' (Kd.R_lt (rU HO330.out)) k_ hk));(case aO => exact (by (with_reducible repeat (first|apply Kd.R_alloc|apply Kd.R_drewN|apply Kd.R_drew));exact Kd.R_mono HO_6.out (fun _ hk => hk.2)));(case aS => exact (below_size (belU HB.out)));(case aL => have:=LMc27.out;omega);intro v332 w29 ho hb hg hat;rw [← Ny331.out] at ho;have n0_:=Aside0.mk (Kd.R_after (ok:=(fun _ => True)) (by (with_reducible repeat (first|apply Kd.R_alloc|apply Kd.R_drewN|apply Kd.R_drew));exact Kd.R_mono HO330.out (fun _ hk => ⟨trivial,hk⟩)) hg hat);have n1_:=Aside0.mk (hb);have n2_:=Aside0.mk (ho);clear HO330 HB HO_6;have HO330:=n0_;have HB:=n1_;have HO333:=n2_;clear n0_ n1_ n2_ ho hb hg hat))
             go_roundg k3
             case measure => have:=HK1.out;have:=HK2.out;have:=HK3.out;omega
             case rel => exact ⟨(y328),(y331),(wrap64 (x8_2 + 1)),(by first|rfl|(simp;done)|(simp [*];done)),H',⟨by have:=HK1.out;have:=HK2.out;have:=HK3.out;omega⟩,⟨by (with_reducible repeat (first|apply Kd.R_alloc|apply Kd.R_drewN|apply Kd.R_drew));exact Kd.R_mono HO330.out (fun _ hk => hk.2)⟩,⟨rU HO333.out⟩,⟨belU HB.out⟩⟩
            ·
             rw [if_neg c27] at H
             exact absurd H (by simp)
           ·
            rw [if_neg c26] at H
            exact absurd H (by simp)
       ·
        rw [if_neg c9] at H
        have c9b0 : decide (x8_2 ≤ x7_1) = false:=decide_eq_false c9;clear c9
        have H':=Aside0.mk H;clear H
        go_wp2
        go_roundg k2
        case measure => have:=HK1.out;have:=HK2.out;omega
        case rel => exact ⟨(x5_2),(x6_2),(wrap64 (x7_1 + 1)),(by first|rfl|(simp;done)|(simp [*];done)),H',⟨by have:=HK1.out;have:=HK2.out;omega⟩,⟨rU HO_5.out⟩,⟨rU HO_6.out⟩,⟨belU HB.out⟩⟩
    ·
     rw [if_neg c8] at H
     have c8b0 : decide (x7_1 ≤ 5) = false:=decide_eq_false c8;clear c8
     simp only [Option.some.injEq,Prod.mk.injEq] at H
     obtain ⟨rfl,rfl,rfl⟩:=H
     go_wp2
     go_ret3
     exact ⟨_,_,by first|rfl|(simp [errW_none,errW_some] <;> rfl)|(simp [*,errW_none,errW_some] <;> rfl),rU HO_5.out,rU HO_6.out,belU HB.out⟩
 ·
  replace c3:=Bool.eq_false_iff.mpr c3;subst c3
  have H1 : (some (y321,y324,false)) = some (r1,r2,r3):=by rw [if_neg (show ¬ (false = true) by decide)] at H;exact H
  clear H;have H:=H1;clear H1
  simp only [Option.some.injEq,Prod.mk.injEq] at H
  obtain ⟨rfl,rfl,rfl⟩:=H
  go_enter Try.func7,Try.ntmps7
  go_wp2_with (first|((with_reducible refine gate_dst (N:=12) rfl ?_);refine Kd.R_lit (Kd.int .i64) _ 3 ?hg (N:=12) ?hd (xs:=([] : List Int)) (inner:=[]) (ok:=fun _ => True) (okp:=fun _ => True) ?hr ?hp (fun _ hk => hk) trivial (Below.refl _ _) (Nat.le_refl _) (by simp) ?_;(case hd => rfl);(case hg => rfl);(case hr => first|(go_simp;done)|(go_simp;rfl));(case hp => exact (Reps.none _ _));intro v322 w30 ho31 hb hg_ hnew_;clear hg_ hnew_;(first|rw [← Ny321.out] at ho31|(simp only [Int.reduceToNat] at ho31;rw [← Ny321.out] at ho31));have n0_:=Aside0.mk (Kd.R_lower ho31 (below_size (belU HB.out)));have n1_:=Aside0.mk (below_step (belU HB.out) hb);clear HB;have HO323:=n0_;have HB:=n1_;clear n0_ n1_ hb ho31)|((with_reducible refine gate_dst (N:=13) rfl ?_);refine Kd.R_lit (Kd.int .i64) _ 3 ?hg (N:=13) ?hd (xs:=([] : List Int)) (inner:=[]) (ok:=fun _ => True) (okp:=fun _ => True) ?hr ?hp (fun _ hk => hk) trivial (Below.refl _ _) (Nat.le_refl _) (by simp) ?_;(case hd => rfl);(case hg => rfl);(case hr => first|(go_simp;done)|(go_simp;rfl));(case hp => exact (Reps.none _ _));intro v325 w32 ho33 hb hg_ hnew_;clear hg_ hnew_;(first|rw [← Ny324.out] at ho33|(simp only [Int.reduceToNat] at ho33;rw [← Ny324.out] at ho33));have n0_:=Aside0.mk (Kd.R_elder' (rU HO323.out) (Kd.R_base ho33) hb);have n1_:=Aside0.mk (Kd.R_lower (Kd.R_new' ho33 (Kd.R_lt (rU HO323.out))) (below_size (belU HB.out)));have n2_:=Aside0.mk (below_step (belU HB.out) hb);clear HO323 HB;have HO323:=n0_;have HO326:=n1_;have HB:=n2_;clear n0_ n1_ n2_ hb ho33)|((with_reducible refine gate_callee (f:=27) rfl ?_);refine goesL_ (some 15) rfl rfl Try.func27 (by kernel_rfl) rfl #[.slice A0 l0.length c0] rfl (by (try simp only [List.map_toArray,List.map_cons,List.map_nil]);first|done|rfl|(simp only [List.length_drop,List.length_take];rfl)) ?_;(with_reducible refine (spec_Between.calls k _ _ l0 false _ ?side1 ?side2 A2.out).mono ?_);(case side1 => exact cU (Kd.C_below HR0.out HB.out));(case side2 => exact HC0.out);rintro e w' ⟨rfl,⟨nd,rfl⟩⟩;refine ⟨_,rfl,?_⟩))
  go_ret3
  exact ⟨_,_,by first|rfl|(simp [errW_none,errW_some] <;> rfl)|(simp [*,errW_none,errW_some] <;> rfl),by (with_reducible repeat (first|apply Kd.R_alloc|apply Kd.R_drewN|apply Kd.R_drew));exact Kd.R_mono HO323.out (fun _ hk => hk.2),by (with_reducible repeat (first|apply Kd.R_alloc|apply Kd.R_drewN|apply Kd.R_drew));exact Kd.R_mono HO326.out (fun _ hk => hk.2),belU HB.out⟩

end Go.Proofs.Ytmeamfkjfpaciaa.PA
