/- The machine side of functions of this seat, written by the session's program myprint.py: for each Go function a Lean function and the proof that the call answers just it. -/
import Derived.Test.YtmbninbecclbiaaPAx0
import Derived.Test.YtmbninbecclbiaaUp
import Derived.Test.YtmbninbecclbiaaPAx17
namespace Go.Proofs.Ytmbninbecclbiaa.PA
open Go.RowKit Go.Proofs.YtmbninbecclbiaaW.PrintWords Go.Proofs.YtmbninbecclbiaaW.PrintLast Go.Proofs.YtmbninbecclbiaaW.PrintMore
attribute [local go_sem] max2_int min2_int max_two min_two max_three min_three max_four min_four   -- for this text's walks alone
set_option linter.unusedVariables false
set_option linter.unusedSimpArgs false

/-! ### impl_weightsOf: function 65 -/
mutual
def impl_weightsOf.l0 : Nat → List Int → Int → Int → Int → Int → Option (List Int)
 | 0,_,_,_,_,_ => none
 | k + 1,x3,x9,x286000,x286001,x286002 => if x9 < 4 then ((impl_isOf.f x9 x286001).bind fun t289 => (if t289 = true then (impl_weightsOf.j1 k x3 x9 1 0 x9 x286000 x286001 x286002) else (impl_weightsOf.j1 k x3 x9 0 0 x9 x286000 x286001 x286002))) else (some x3)
def impl_weightsOf.j1 : Nat → List Int → Int → Int → Int → Int → Int → Int → Int → Option (List Int)
 | 0,_,_,_,_,_,_,_,_ => none
 | k + 1,x3,x4,x5,x6,x9,x286000,x286001,x286002 => (impl_isOf.f x4 x286002).bind fun t290 => (if t290 = true then (impl_weightsOf.j2 k x3 x5 1 x9 x286000 x286001 x286002) else (impl_weightsOf.j2 k x3 x5 x6 x9 x286000 x286001 x286002))
def impl_weightsOf.j2 : Nat → List Int → Int → Int → Int → Int → Int → Int → Option (List Int)
 | 0,_,_,_,_,_,_,_ => none
 | k + 1,x3,x5,x6,x9,x286000,x286001,x286002 => if x286000 = 0 then (if x3.length < 17592186044416 then (impl_weightsOf.l0 k (x3 ++ [wrap64 (x5 * (wrap64 (x6 - 1)))]) (wrap64 (x9 + 1)) x286000 x286001 x286002) else (none)) else (if x286000 = 2 then (impl_weightsOf.j3 k x3 x5 x6 (wrap64 (x5 * x6)) x9 x286000 (x286000 == 2) x286000 x286001 x286002) else (impl_weightsOf.j3 k x3 x5 x6 (wrap64 (x5 * x6)) x9 x286000 (x286000 == 3) x286000 x286001 x286002))
def impl_weightsOf.j3 : Nat → List Int → Int → Int → Int → Int → Int → Bool → Int → Int → Int → Option (List Int)
 | 0,_,_,_,_,_,_,_,_,_,_ => none
 | k + 1,x3,x5,x6,x7,x9,x24,x31,x286000,x286001,x286002 => if x31 = true then (if x3.length < 17592186044416 then (impl_weightsOf.l0 k (x3 ++ [wrap64 (x5 - x6)]) (wrap64 (x9 + 1)) x286000 x286001 x286002) else (none)) else (if x24 = 4 then (if x3.length < 17592186044416 then (impl_weightsOf.l0 k (x3 ++ [wrap64 ((wrap64 ((wrap64 (2 * x5)) * x6)) - x5)]) (wrap64 (x9 + 1)) x286000 x286001 x286002) else (none)) else (if x24 = 5 then (if x3.length < 17592186044416 then (impl_weightsOf.l0 k (x3 ++ [wrap64 (x5 - (wrap64 ((wrap64 (2 * x5)) * x6)))]) (wrap64 (x9 + 1)) x286000 x286001 x286002) else (none)) else (if x3.length < 17592186044416 then (impl_weightsOf.l0 k (x3 ++ [x7]) (wrap64 (x9 + 1)) x286000 x286001 x286002) else (none))))
end
def impl_weightsOf.f (k : Nat) (a0_0 : Int) (a0_1 : Int) (a0_2 : Int) : Option (List Int):=impl_weightsOf.l0 k (([] : List Int)) 0 a0_0 a0_1 a0_2
theorem impl_weightsOf.mono_l : ∀ k,(∀ y0 y1 y2 y3 y4,LeO (impl_weightsOf.l0 k y0 y1 y2 y3 y4) (impl_weightsOf.l0 (k + 1) y0 y1 y2 y3 y4)) ∧ (∀ y0 y1 y2 y3 y4 y5 y6 y7,LeO (impl_weightsOf.j1 k y0 y1 y2 y3 y4 y5 y6 y7) (impl_weightsOf.j1 (k + 1) y0 y1 y2 y3 y4 y5 y6 y7)) ∧ (∀ y0 y1 y2 y3 y4 y5 y6,LeO (impl_weightsOf.j2 k y0 y1 y2 y3 y4 y5 y6) (impl_weightsOf.j2 (k + 1) y0 y1 y2 y3 y4 y5 y6)) ∧ (∀ y0 y1 y2 y3 y4 y5 y6 y7 y8 y9,LeO (impl_weightsOf.j3 k y0 y1 y2 y3 y4 y5 y6 y7 y8 y9) (impl_weightsOf.j3 (k + 1) y0 y1 y2 y3 y4 y5 y6 y7 y8 y9))
 | 0 => ⟨fun _ _ _ _ _ r h => by simp [impl_weightsOf.l0] at h,fun _ _ _ _ _ _ _ _ r h => by simp [impl_weightsOf.j1] at h,fun _ _ _ _ _ _ _ r h => by simp [impl_weightsOf.j2] at h,fun _ _ _ _ _ _ _ _ _ _ r h => by simp [impl_weightsOf.j3] at h⟩
 | k + 1 => by
  obtain ⟨ih0,ih1,ih2,ih3⟩:=impl_weightsOf.mono_l k
  refine ⟨?_,?_,?_,?_⟩
  ·
   intro y0 y1 y2 y3 y4
   unfold impl_weightsOf.l0
   repeat' first
   | (with_reducible exact ih0 _ _ _ _ _)
   | (with_reducible exact ih1 _ _ _ _ _ _ _ _)
   | (with_reducible exact ih2 _ _ _ _ _ _ _)
   | (with_reducible exact ih3 _ _ _ _ _ _ _ _ _ _)
   | (with_reducible exact LeO.refl _)
   | (with_reducible exact LeO.none _)
   | (with_reducible refine LeO.ite ?_ ?_)
   | (with_reducible refine LeO.bind ?_ (fun _ => ?_))
   | exact ih0 _ _ _ _ _
   | exact ih1 _ _ _ _ _ _ _ _
   | exact ih2 _ _ _ _ _ _ _
   | exact ih3 _ _ _ _ _ _ _ _ _ _
   | exact LeO.none _
   | refine LeO.ite ?_ ?_
   | refine LeO.bind ?_ (fun _ => ?_)
  ·
   intro y0 y1 y2 y3 y4 y5 y6 y7
   unfold impl_weightsOf.j1
   repeat' first
   | (with_reducible exact ih0 _ _ _ _ _)
   | (with_reducible exact ih1 _ _ _ _ _ _ _ _)
   | (with_reducible exact ih2 _ _ _ _ _ _ _)
   | (with_reducible exact ih3 _ _ _ _ _ _ _ _ _ _)
   | (with_reducible exact LeO.refl _)
   | (with_reducible exact LeO.none _)
   | (with_reducible refine LeO.ite ?_ ?_)
   | (with_reducible refine LeO.bind ?_ (fun _ => ?_))
   | exact ih0 _ _ _ _ _
   | exact ih1 _ _ _ _ _ _ _ _
   | exact ih2 _ _ _ _ _ _ _
   | exact ih3 _ _ _ _ _ _ _ _ _ _
   | exact LeO.none _
   | refine LeO.ite ?_ ?_
   | refine LeO.bind ?_ (fun _ => ?_)
  ·
   intro y0 y1 y2 y3 y4 y5 y6
   unfold impl_weightsOf.j2
   repeat' first
   | (with_reducible exact ih0 _ _ _ _ _)
   | (with_reducible exact ih1 _ _ _ _ _ _ _ _)
   | (with_reducible exact ih2 _ _ _ _ _ _ _)
   | (with_reducible exact ih3 _ _ _ _ _ _ _ _ _ _)
   | (with_reducible exact LeO.refl _)
   | (with_reducible exact LeO.none _)
   | (with_reducible refine LeO.ite ?_ ?_)
   | (with_reducible refine LeO.bind ?_ (fun _ => ?_))
   | exact ih0 _ _ _ _ _
   | exact ih1 _ _ _ _ _ _ _ _
   | exact ih2 _ _ _ _ _ _ _
   | exact ih3 _ _ _ _ _ _ _ _ _ _
   | exact LeO.none _
   | refine LeO.ite ?_ ?_
   | refine LeO.bind ?_ (fun _ => ?_)
  ·
   intro y0 y1 y2 y3 y4 y5 y6 y7 y8 y9
   unfold impl_weightsOf.j3
   repeat' first
   | (with_reducible exact ih0 _ _ _ _ _)
   | (with_reducible exact ih1 _ _ _ _ _ _ _ _)
   | (with_reducible exact ih2 _ _ _ _ _ _ _)
   | (with_reducible exact ih3 _ _ _ _ _ _ _ _ _ _)
   | (with_reducible exact LeO.refl _)
   | (with_reducible exact LeO.none _)
   | (with_reducible refine LeO.ite ?_ ?_)
   | (with_reducible refine LeO.bind ?_ (fun _ => ?_))
   | exact ih0 _ _ _ _ _
   | exact ih1 _ _ _ _ _ _ _ _
   | exact ih2 _ _ _ _ _ _ _
   | exact ih3 _ _ _ _ _ _ _ _ _ _
   | exact LeO.none _
   | refine LeO.ite ?_ ?_
   | refine LeO.bind ?_ (fun _ => ?_)
theorem impl_weightsOf.mono : ∀ a0 a1 a2 k,LeO (impl_weightsOf.f k a0 a1 a2) (impl_weightsOf.f (k + 1) a0 a1 a2):=by
 intro a0 a1 a2 k
 obtain ⟨ih0,ih1,ih2,ih3⟩:=impl_weightsOf.mono_l k
 unfold impl_weightsOf.f
 repeat' first
   | (with_reducible exact ih0 _ _ _ _ _)
   | (with_reducible exact ih1 _ _ _ _ _ _ _ _)
   | (with_reducible exact ih2 _ _ _ _ _ _ _)
   | (with_reducible exact ih3 _ _ _ _ _ _ _ _ _ _)
   | (with_reducible exact LeO.refl _)
   | (with_reducible exact LeO.none _)
   | (with_reducible refine LeO.ite ?_ ?_)
   | (with_reducible refine LeO.bind ?_ (fun _ => ?_))
   | exact ih0 _ _ _ _ _
   | exact ih1 _ _ _ _ _ _ _ _
   | exact ih2 _ _ _ _ _ _ _
   | exact ih3 _ _ _ _ _ _ _ _ _ _
   | exact LeO.none _
   | refine LeO.ite ?_ ?_
   | refine LeO.bind ?_ (fun _ => ?_)
set_option maxHeartbeats 8000000 in
set_option maxRecDepth 100000 in
theorem impl_weightsOf.calls (k : Nat) (a0_0 : Int) (a0_1 : Int) (a0_2 : Int) (r : List Int) (w : World) (h : impl_weightsOf.f k a0_0 a0_1 a0_2 = some r) :
  Calls Try.prog 65 #[.agg #[.int .i64 a0_0,.int .i64 a0_1,.int .i64 a0_2]] w fun e w' => ∃ v0_ : Value,e = .returned (v0_) ∧ Kd.R (Kd.int .i64) 3 w' w.heap.size (fun _ => True) v0_ r ∧ Below w.heap.size w w':=by
 have hu29:=Try.underlying29;have HB:=Aside0.mk (Below.refl w.heap.size w)
 have H : (impl_weightsOf.l0 k (([] : List Int)) 0 a0_0 a0_1 a0_2) = some r:=h;clear h
 obtain ⟨y286,hy286⟩ : ∃ y_ : List Int,y_ = (([] : List Int)):=⟨_,rfl⟩
 replace H : (impl_weightsOf.l0 k y286 0 a0_0 a0_1 a0_2) = some r:=by first|(rw [hy286];with_reducible exact H)|(have H2_:=(Option.bind_some _ _).symm.trans H;rw [hy286];with_reducible exact H2_)|(have H2_:=(Option.bind_some _ _).symm.trans H;with_reducible exact H2_)|with_reducible exact H|(rw [hy286];exact H)|exact H
 have Ny286:=Aside0.mk hy286;clear hy286
 have H':=Aside0.mk H;clear H
 go_enter Try.func65,Try.ntmps65
 go_wp2_with (first|((with_reducible refine gate_dst (N:=1) rfl ?_);refine box_event ?hg (N:=1) ?hd (cs:=#[.int .i64 a0_0,.int .i64 a0_1,.int .i64 a0_2]) (t:=29) ?hr ?_;(case hd => rfl);(case hg => rfl);(case hr => first|(go_simp;done)|(go_simp;rfl));intro gb285 hg w2 hbox hb;have n0_:=Aside0.mk (below_step (belU HB.out) hb);have n1_:=Aside0.mk (hbox);have n2_:=Aside0.mk ((by rw [hg];exact (below_size (belU HB.out)) : w.heap.size ≤ gb285));have n3_:=Aside0.mk ((by rw [hg];exact (below_size (belU HB.out)) : w.heap.size ≤ gb285));clear HB;have HB:=n0_;have BK285:=n1_;have GW285:=n2_;have GE285:=n3_;clear n0_ n1_ n2_ n3_ hb hbox hg)|((with_reducible refine gate_dst (N:=8) rfl ?_);refine Kd.R_lit (Kd.int .i64) _ 3 ?hg (N:=8) ?hd (xs:=([] : List Int)) (inner:=[]) (ok:=fun _ => True) (okp:=fun _ => True) ?hr ?hp (fun _ hk => hk) trivial (Below.refl _ _) (Nat.le_refl _) (by simp) ?_;(case hd => rfl);(case hg => rfl);(case hr => first|(go_simp;done)|(go_simp;rfl));(case hp => exact (Reps.none _ _));intro v287 w3 ho4 hb hg_ hnew_;clear hg_ hnew_;(first|rw [← Ny286.out] at ho4|(simp only [Int.reduceToNat] at ho4;rw [← Ny286.out] at ho4));have n0_:=Aside0.mk (Kd.R_lower ho4 (below_size (by repeat (first|(with_reducible first|exact HB.out|apply below_alloc|apply pw_below_drewN|apply below_drew1|refine below_set ?_ GE285.out)|exact HB.out))));have n1_:=Aside0.mk (blk_below (g:=gb285) (o:=.cells #[.int .i64 a0_0,.int .i64 a0_1,.int .i64 a0_2] 29 (0,0)) (blkU BK285.out) hb);have n2_:=Aside0.mk (below_step (by repeat (first|(with_reducible first|exact HB.out|apply below_alloc|apply pw_below_drewN|apply below_drew1|refine below_set ?_ GE285.out)|exact HB.out)) hb);clear BK285 HB;have HO288:=n0_;have BK285:=n1_;have HB:=n2_;clear n0_ n1_ n2_ hb ho4))
 go_loopg [3,9] k (fun kq v3 v9 w' => ∃ (x3_1 : List Int) (x9_1 : Int),v9 = .int .i64 x9_1 ∧ Aside0 (impl_weightsOf.l0 kq x3_1 x9_1 a0_0 a0_1 a0_2 = some r) ∧ Aside0 (kq ≤ k) ∧ Aside0 (Kd.R (Kd.int .i64) 3 w' w.heap.size (fun _ => True) v3 x3_1) ∧ Aside0 (w'.heap[gb285]? = some (.cells #[.int .i64 a0_0,.int .i64 a0_1,.int .i64 a0_2] 29 (0,0))) ∧ Aside0 (Below w.heap.size w w'))
 case atStart => exact ⟨(y286),(0),(by first|rfl|(simp;done)|(simp [*];done)),H',⟨Nat.le_refl _⟩,⟨rU HO288.out⟩,⟨blkU BK285.out⟩,⟨by repeat (first|(with_reducible first|exact HB.out|apply below_alloc|apply pw_below_drewN|apply below_drew1|refine below_set ?_ GE285.out)|exact HB.out)⟩⟩
 case round =>
  clear H'
  try clear p2
  obtain ⟨x3_1,x9_1,rfl,HA,HK1,HO_3,BK285,HB⟩:=hrel
  cases gk with
  | zero => exact absurd HA.out (by simp [impl_weightsOf.l0])
  | succ k1 =>
   have H:=HA.out;clear HA
   simp only [impl_weightsOf.l0] at H
   by_cases c5 : x9_1 < 4
   ·
    rw [if_pos c5] at H
    have c5b0 : decide (x9_1 < 4) = true:=decide_eq_true c5;clear c5
    replace H:=Option.bind_eq_some_iff.mp H
    obtain ⟨t289,A60,H⟩:=H
    replace H : (if t289 = true then (impl_weightsOf.j1 k1 x3_1 x9_1 1 0 x9_1 a0_0 a0_1 a0_2) else (impl_weightsOf.j1 k1 x3_1 x9_1 0 0 x9_1 a0_0 a0_1 a0_2)) = some r:=H
    have A6:=Aside0.mk A60;clear A60
    have HC7:=Aside0.mk H;clear H
    have hcz8_0 : wr.cell? ⟨gb285,0,none⟩ = some (.int .i64 a0_0):=(blk_cell BK285.out 0).trans rfl
    have hcz8_1 : wr.cell? ⟨gb285,1,none⟩ = some (.int .i64 a0_1):=(blk_cell BK285.out 1).trans rfl
    have hcz8_2 : wr.cell? ⟨gb285,2,none⟩ = some (.int .i64 a0_2):=(blk_cell BK285.out 2).trans rfl
    have hfz8_0:=blk_frozen BK285.out 0
    have hfz8_1:=blk_frozen BK285.out 1
    have hfz8_2:=blk_frozen BK285.out 2
    go_upto_if 15 with (first|((with_reducible refine gate_callee (f:=80) rfl ?_);refine goesL_ (some 15) rfl rfl Try.func80 (by kernel_rfl) rfl #[.int .i64 x9_1,.int .i64 a0_1] rfl (by (try simp only [List.map_toArray,List.map_cons,List.map_nil]);first|done|rfl|(simp only [List.length_drop,List.length_take];rfl)) ?_;(with_reducible refine (impl_isOf.calls x9_1 a0_1 t289 _ A6.out).mono ?_);rintro e w' ⟨rfl,⟨nd,rfl⟩⟩;refine ⟨_,rfl,?_⟩))
    (try simp only [Act.put,List.setIfInBounds_toArray,List.set_cons_zero,List.set_cons_succ])
    go_cut [5] (fun v5 wc => ∃ (kq : Nat) (x5_6 : Int),v5 = .int .i64 x5_6 ∧ Aside0 (impl_weightsOf.j1 kq x3_1 x9_1 x5_6 0 x9_1 a0_0 a0_1 a0_2 = some r) ∧ Aside0 (kq ≤ k1) ∧ Aside0 (Kd.R (Kd.int .i64) 3 wc w.heap.size (fun _ => True) u3 x3_1) ∧ Aside0 (wc.heap[gb285]? = some (.cells #[.int .i64 a0_0,.int .i64 a0_1,.int .i64 a0_2] 29 (0,0))) ∧ Aside0 (Below w.heap.size w wc))
    case first =>
     have H:=HC7.out;clear HC7
     by_cases c9 : t289 = true
     ·
      subst c9
      have H1 : (impl_weightsOf.j1 k1 x3_1 x9_1 1 0 x9_1 a0_0 a0_1 a0_2) = some r:=by rw [if_pos rfl] at H;exact H
      clear H;have H:=H1;clear H1
      have H':=Aside0.mk H;clear H
      go_wp2
      go_meet
      case rel => exact ⟨_,(1),(by first|rfl|(simp;done)|(simp [*];done)),H',⟨by have:=HK1.out;first|omega|exact Nat.le_refl _⟩,⟨rU HO_3.out⟩,⟨blkU BK285.out⟩,⟨by repeat (first|(with_reducible first|exact HB.out|apply below_alloc|apply pw_below_drewN|apply below_drew1|refine below_set ?_ GE285.out)|exact HB.out)⟩⟩
     ·
      replace c9:=Bool.eq_false_iff.mpr c9;subst c9
      have H1 : (impl_weightsOf.j1 k1 x3_1 x9_1 0 0 x9_1 a0_0 a0_1 a0_2) = some r:=by rw [if_neg (show ¬ (false = true) by decide)] at H;exact H
      clear H;have H:=H1;clear H1
      have H':=Aside0.mk H;clear H
      go_wp2
      go_meet
      case rel => exact ⟨_,(0),(by first|rfl|(simp;done)|(simp [*];done)),H',⟨by have:=HK1.out;first|omega|exact Nat.le_refl _⟩,⟨rU HO_3.out⟩,⟨blkU BK285.out⟩,⟨by repeat (first|(with_reducible first|exact HB.out|apply below_alloc|apply pw_below_drewN|apply below_drew1|refine below_set ?_ GE285.out)|exact HB.out)⟩⟩
    case rest =>
     clear HC7
     try clear p2
     try clear c5
     try clear c5b0
     try clear c6
     try clear c8
     try clear c9
     try clear hcz8_0
     try clear hcz8_1
     try clear hcz8_2
     try clear hfz8_0
     try clear hfz8_1
     try clear hfz8_2
     try clear p2
     obtain ⟨kq,x5_6,rfl,HA,HJ6,HO_3,BK285,HB⟩:=hcut
     cases kq with
     | zero => exact absurd HA.out (by simp [impl_weightsOf.j1])
     | succ kj6 =>
      have H:=HA.out;clear HA
      simp only [impl_weightsOf.j1] at H
      replace H:=Option.bind_eq_some_iff.mp H
      obtain ⟨t290,A100,H⟩:=H
      replace H : (if t290 = true then (impl_weightsOf.j2 kj6 x3_1 x5_6 1 x9_1 a0_0 a0_1 a0_2) else (impl_weightsOf.j2 kj6 x3_1 x5_6 0 x9_1 a0_0 a0_1 a0_2)) = some r:=H
      have A10:=Aside0.mk A100;clear A100
      have HC11:=Aside0.mk H;clear H
      have hcz12_0 : wc.cell? ⟨gb285,0,none⟩ = some (.int .i64 a0_0):=(blk_cell BK285.out 0).trans rfl
      have hcz12_1 : wc.cell? ⟨gb285,1,none⟩ = some (.int .i64 a0_1):=(blk_cell BK285.out 1).trans rfl
      have hcz12_2 : wc.cell? ⟨gb285,2,none⟩ = some (.int .i64 a0_2):=(blk_cell BK285.out 2).trans rfl
      have hfz12_0:=blk_frozen BK285.out 0
      have hfz12_1:=blk_frozen BK285.out 1
      have hfz12_2:=blk_frozen BK285.out 2
      go_upto_if 19 with (first|((with_reducible refine gate_callee (f:=80) rfl ?_);refine goesL_ (some 19) rfl rfl Try.func80 (by kernel_rfl) rfl #[.int .i64 x9_1,.int .i64 a0_2] rfl (by (try simp only [List.map_toArray,List.map_cons,List.map_nil]);first|done|rfl|(simp only [List.length_drop,List.length_take];rfl)) ?_;(with_reducible refine (impl_isOf.calls x9_1 a0_2 t290 _ A10.out).mono ?_);rintro e w' ⟨rfl,⟨nd,rfl⟩⟩;refine ⟨_,rfl,?_⟩))
      (try simp only [Act.put,List.setIfInBounds_toArray,List.set_cons_zero,List.set_cons_succ])
      go_cut [6] (fun v6 wc => ∃ (kq : Nat) (x6_10 : Int),v6 = .int .i64 x6_10 ∧ Aside0 (impl_weightsOf.j2 kq x3_1 x5_6 x6_10 x9_1 a0_0 a0_1 a0_2 = some r) ∧ Aside0 (kq ≤ kj6) ∧ Aside0 (Kd.R (Kd.int .i64) 3 wc w.heap.size (fun _ => True) u3 x3_1) ∧ Aside0 (wc.heap[gb285]? = some (.cells #[.int .i64 a0_0,.int .i64 a0_1,.int .i64 a0_2] 29 (0,0))) ∧ Aside0 (Below w.heap.size w wc))
      case first =>
       have H:=HC11.out;clear HC11
       by_cases c13 : t290 = true
       ·
        subst c13
        have H1 : (impl_weightsOf.j2 kj6 x3_1 x5_6 1 x9_1 a0_0 a0_1 a0_2) = some r:=by rw [if_pos rfl] at H;exact H
        clear H;have H:=H1;clear H1
        have H':=Aside0.mk H;clear H
        go_wp2
        go_meet
        case rel => exact ⟨_,(1),(by first|rfl|(simp;done)|(simp [*];done)),H',⟨by have:=HK1.out;have:=HJ6.out;first|omega|exact Nat.le_refl _⟩,⟨rU HO_3.out⟩,⟨blkU BK285.out⟩,⟨by repeat (first|(with_reducible first|exact HB.out|apply below_alloc|apply pw_below_drewN|apply below_drew1|refine below_set ?_ GE285.out)|exact HB.out)⟩⟩
       ·
        replace c13:=Bool.eq_false_iff.mpr c13;subst c13
        have H1 : (impl_weightsOf.j2 kj6 x3_1 x5_6 0 x9_1 a0_0 a0_1 a0_2) = some r:=by rw [if_neg (show ¬ (false = true) by decide)] at H;exact H
        clear H;have H:=H1;clear H1
        have H':=Aside0.mk H;clear H
        go_wp2
        go_meet
        case rel => exact ⟨_,(0),(by first|rfl|(simp;done)|(simp [*];done)),H',⟨by have:=HK1.out;have:=HJ6.out;first|omega|exact Nat.le_refl _⟩,⟨rU HO_3.out⟩,⟨blkU BK285.out⟩,⟨by repeat (first|(with_reducible first|exact HB.out|apply below_alloc|apply pw_below_drewN|apply below_drew1|refine below_set ?_ GE285.out)|exact HB.out)⟩⟩
      case rest =>
       clear HC11
       try clear c1
       try clear p2
       try clear c5
       try clear c5b0
       try clear c6
       try clear c8
       try clear c9
       try clear c13
       try clear hcz12_0
       try clear hcz12_1
       try clear hcz12_2
       try clear hcz8_0
       try clear hcz8_1
       try clear hcz8_2
       try clear hfz12_0
       try clear hfz12_1
       try clear hfz12_2
       try clear hfz8_0
       try clear hfz8_1
       try clear hfz8_2
       try clear p2
       obtain ⟨kq,x6_10,rfl,HA,HJ10,HO_3,BK285,HB⟩:=hcut
       cases kq with
       | zero => exact absurd HA.out (by simp [impl_weightsOf.j2])
       | succ kj10 =>
        have H:=HA.out;clear HA
        simp only [impl_weightsOf.j2] at H
        by_cases c14 : a0_0 = 0
        ·
         rw [if_pos c14] at H
         have c14b0 : (a0_0 == 0) = true:=beq_iff_eq.mpr c14
         have c14b1 : (a0_0 != 0) = false:=bne_eq_false_iff_eq.mpr c14;clear c14
         by_cases c15 : x3_1.length < 17592186044416
         ·
          rw [if_pos c15] at H
          have LMc15:=Aside0.mk c15;clear c15
          obtain ⟨y291,hy291⟩ : ∃ y_ : List Int,y_ = (x3_1 ++ [wrap64 (x5_6 * (wrap64 (x6_10 - 1)))]):=⟨_,rfl⟩
          replace H : (impl_weightsOf.l0 kj10 y291 (wrap64 (x9_1 + 1)) a0_0 a0_1 a0_2) = some r:=by first|(rw [hy291];with_reducible exact H)|(have H2_:=(Option.bind_some _ _).symm.trans H;rw [hy291];with_reducible exact H2_)|(have H2_:=(Option.bind_some _ _).symm.trans H;with_reducible exact H2_)|with_reducible exact H|(rw [hy291];exact H)|exact H
          have Ny291:=Aside0.mk hy291;clear hy291
          have H':=Aside0.mk H;clear H
          have hcz16_0 : wc.cell? ⟨gb285,0,none⟩ = some (.int .i64 a0_0):=(blk_cell BK285.out 0).trans rfl
          have hcz16_1 : wc.cell? ⟨gb285,1,none⟩ = some (.int .i64 a0_1):=(blk_cell BK285.out 1).trans rfl
          have hcz16_2 : wc.cell? ⟨gb285,2,none⟩ = some (.int .i64 a0_2):=(blk_cell BK285.out 2).trans rfl
          have hfz16_0:=blk_frozen BK285.out 0
          have hfz16_1:=blk_frozen BK285.out 1
          have hfz16_2:=blk_frozen BK285.out 2
          go_wp2_with (first|((with_reducible refine gate_builtin (b:=.append) (xs:=#[.tmp 53,.tmp 55]) rfl ?_);at_builtin;refine Kd.R_append (Kd.int .i64) (w0:=w) w.heap.size rfl (.tmp 53) (.tmp 55) 35 3 (.int .i64 0) 8 rfl Try.underlying35 info3 rfl (by decide) (by omega) u3 x3_1 (wrap64 (x5_6 * (wrap64 (x6_10 - 1)))) [.int .i64 (wrap64 (x5_6 * (wrap64 (x6_10 - 1))))] (fun _ => True) (fun _ => False) rfl rfl ?aP (fun _ hk => hk.elim) ?aF ?aO ?aB ?aS ?aL ?_;(case aP => exact rfl);(case aB => exact (by repeat (first|(with_reducible first|exact HB.out|apply below_alloc|apply pw_below_drewN|apply below_drew1|refine below_set ?_ GE285.out)|exact HB.out)));(case aF => exact (fun _ _ => trivial));(case aO => exact (rU HO_3.out));(case aS => exact (below_size (by repeat (first|(with_reducible first|exact HB.out|apply below_alloc|apply pw_below_drewN|apply below_drew1|refine below_set ?_ GE285.out)|exact HB.out))));(case aL => have:=LMc15.out;omega);intro v292 w17 ho hb hg hat;rw [← Ny291.out] at ho;have n0_:=Aside0.mk (blk_grown (g:=gb285) (o:=.cells #[.int .i64 a0_0,.int .i64 a0_1,.int .i64 a0_2] 29 (0,0)) (blkU BK285.out) hg (Kd.R_ne HO_3.out BK285.out (by decide)));have n1_:=Aside0.mk (hb);have n2_:=Aside0.mk (ho);clear BK285 HB HO_3;have BK285:=n0_;have HB:=n1_;have HO293:=n2_;clear n0_ n1_ n2_ ho hb hg hat))
          go_roundg kj10
          case measure => have:=HK1.out;have:=HJ6.out;have:=HJ10.out;omega
          case rel => exact ⟨(y291),(wrap64 (x9_1 + 1)),(by first|rfl|(simp;done)|(simp [*];done)),H',⟨by have:=HK1.out;have:=HJ6.out;have:=HJ10.out;omega⟩,⟨rU HO293.out⟩,⟨blkU BK285.out⟩,⟨by repeat (first|(with_reducible first|exact HB.out|apply below_alloc|apply pw_below_drewN|apply below_drew1|refine below_set ?_ GE285.out)|exact HB.out)⟩⟩
         ·
          rw [if_neg c15] at H
          exact absurd H (by simp)
        ·
         rw [if_neg c14] at H
         have c14b0 : (a0_0 == 0) = false:=beq_eq_false_iff_ne.mpr c14
         have c14b1 : (a0_0 != 0) = true:=bne_iff_ne.mpr c14
         have HC18:=Aside0.mk H;clear H
         have hcz19_0 : wc.cell? ⟨gb285,0,none⟩ = some (.int .i64 a0_0):=(blk_cell BK285.out 0).trans rfl
         have hcz19_1 : wc.cell? ⟨gb285,1,none⟩ = some (.int .i64 a0_1):=(blk_cell BK285.out 1).trans rfl
         have hcz19_2 : wc.cell? ⟨gb285,2,none⟩ = some (.int .i64 a0_2):=(blk_cell BK285.out 2).trans rfl
         have hfz19_0:=blk_frozen BK285.out 0
         have hfz19_1:=blk_frozen BK285.out 1
         have hfz19_2:=blk_frozen BK285.out 2
         go_upto_if 31 with (fail)
         go_cut [31] (fun v31 wc => ∃ (kq : Nat) (x31_17 : Bool),v31 = .bool x31_17 ∧ Aside0 (impl_weightsOf.j3 kq x3_1 x5_6 x6_10 (wrap64 (x5_6 * x6_10)) x9_1 a0_0 x31_17 a0_0 a0_1 a0_2 = some r) ∧ Aside0 (kq ≤ kj10) ∧ Aside0 (Kd.R (Kd.int .i64) 3 wc w.heap.size (fun _ => True) u3 x3_1) ∧ Aside0 (wc.heap[gb285]? = some (.cells #[.int .i64 a0_0,.int .i64 a0_1,.int .i64 a0_2] 29 (0,0))) ∧ Aside0 (Below w.heap.size w wc))
         case first =>
          have H:=HC18.out;clear HC18
          by_cases c20 : a0_0 = 2
          ·
           rw [if_pos c20] at H
           have c20b0 : (a0_0 == 2) = true:=beq_iff_eq.mpr c20
           have c20b1 : (a0_0 != 2) = false:=bne_eq_false_iff_eq.mpr c20;clear c20
           (first|rw [c20b0]|(simp only [i64_w,i32_w];rw [c20b0])|skip)
           have H':=Aside0.mk H;clear H
           go_wp2
           go_meet
           case rel => exact ⟨_,((a0_0 == 2)),(by first|rfl|(simp;done)|(simp [*];done)),H',⟨by have:=HK1.out;have:=HJ6.out;have:=HJ10.out;first|omega|exact Nat.le_refl _⟩,⟨rU HO_3.out⟩,⟨blkU BK285.out⟩,⟨by repeat (first|(with_reducible first|exact HB.out|apply below_alloc|apply pw_below_drewN|apply below_drew1|refine below_set ?_ GE285.out)|exact HB.out)⟩⟩
          ·
           rw [if_neg c20] at H
           have c20b0 : (a0_0 == 2) = false:=beq_eq_false_iff_ne.mpr c20
           have c20b1 : (a0_0 != 2) = true:=bne_iff_ne.mpr c20
           (first|rw [c20b0]|(simp only [i64_w,i32_w];rw [c20b0])|skip)
           have H':=Aside0.mk H;clear H
           go_wp2
           go_meet
           case rel => exact ⟨_,((a0_0 == 3)),(by first|rfl|(simp;done)|(simp [*];done)),H',⟨by have:=HK1.out;have:=HJ6.out;have:=HJ10.out;first|omega|exact Nat.le_refl _⟩,⟨rU HO_3.out⟩,⟨blkU BK285.out⟩,⟨by repeat (first|(with_reducible first|exact HB.out|apply below_alloc|apply pw_below_drewN|apply below_drew1|refine below_set ?_ GE285.out)|exact HB.out)⟩⟩
         case rest =>
          clear HC18
          try clear c1
          try clear c2
          try clear p2
          try clear c5
          try clear c5b0
          try clear c6
          try clear p6
          try clear c8
          try clear c9
          try clear c13
          try clear c14
          try clear c14b0
          try clear c14b1
          try clear c15
          try clear c20
          try clear c20b0
          try clear c20b1
          try clear hcz12_0
          try clear hcz12_1
          try clear hcz12_2
          try clear hcz16_0
          try clear hcz16_1
          try clear hcz16_2
          try clear hcz19_0
          try clear hcz19_1
          try clear hcz19_2
          try clear hcz8_0
          try clear hcz8_1
          try clear hcz8_2
          try clear hfz12_0
          try clear hfz12_1
          try clear hfz12_2
          try clear hfz16_0
          try clear hfz16_1
          try clear hfz16_2
          try clear hfz19_0
          try clear hfz19_1
          try clear hfz19_2
          try clear hfz8_0
          try clear hfz8_1
          try clear hfz8_2
          try clear p2
          obtain ⟨kq,x31_17,rfl,HA,HJ17,HO_3,BK285,HB⟩:=hcut
          cases kq with
          | zero => exact absurd HA.out (by simp [impl_weightsOf.j3])
          | succ kj17 =>
           have H:=HA.out;clear HA
           simp only [impl_weightsOf.j3] at H
           by_cases c21 : x31_17 = true
           ·
            subst c21
            have H1 : (if x3_1.length < 17592186044416 then (impl_weightsOf.l0 kj17 (x3_1 ++ [wrap64 (x5_6 - x6_10)]) (wrap64 (x9_1 + 1)) a0_0 a0_1 a0_2) else (none)) = some r:=by rw [if_pos rfl] at H;exact H
            clear H;have H:=H1;clear H1
            by_cases c22 : x3_1.length < 17592186044416
            ·
             rw [if_pos c22] at H
             have LMc22:=Aside0.mk c22;clear c22
             obtain ⟨y294,hy294⟩ : ∃ y_ : List Int,y_ = (x3_1 ++ [wrap64 (x5_6 - x6_10)]):=⟨_,rfl⟩
             replace H : (impl_weightsOf.l0 kj17 y294 (wrap64 (x9_1 + 1)) a0_0 a0_1 a0_2) = some r:=by first|(rw [hy294];with_reducible exact H)|(have H2_:=(Option.bind_some _ _).symm.trans H;rw [hy294];with_reducible exact H2_)|(have H2_:=(Option.bind_some _ _).symm.trans H;with_reducible exact H2_)|with_reducible exact H|(rw [hy294];exact H)|exact H
             have Ny294:=Aside0.mk hy294;clear hy294
             have H':=Aside0.mk H;clear H
             go_wp2_with (first|((with_reducible refine gate_builtin (b:=.append) (xs:=#[.tmp 53,.tmp 55]) rfl ?_);at_builtin;refine Kd.R_append (Kd.int .i64) (w0:=w) w.heap.size rfl (.tmp 53) (.tmp 55) 35 3 (.int .i64 0) 8 rfl Try.underlying35 info3 rfl (by decide) (by omega) u3 x3_1 (wrap64 (x5_6 - x6_10)) [.int .i64 (wrap64 (x5_6 - x6_10))] (fun _ => True) (fun _ => False) rfl rfl ?aP (fun _ hk => hk.elim) ?aF ?aO ?aB ?aS ?aL ?_;(case aP => exact rfl);(case aB => exact (by repeat (first|(with_reducible first|exact HB.out|apply below_alloc|apply pw_below_drewN|apply below_drew1|refine below_set ?_ GE285.out)|exact HB.out)));(case aF => exact (fun _ _ => trivial));(case aO => exact (rU HO_3.out));(case aS => exact (below_size (by repeat (first|(with_reducible first|exact HB.out|apply below_alloc|apply pw_below_drewN|apply below_drew1|refine below_set ?_ GE285.out)|exact HB.out))));(case aL => have:=LMc22.out;omega);intro v295 w23 ho hb hg hat;rw [← Ny294.out] at ho;have n0_:=Aside0.mk (blk_grown (g:=gb285) (o:=.cells #[.int .i64 a0_0,.int .i64 a0_1,.int .i64 a0_2] 29 (0,0)) (blkU BK285.out) hg (Kd.R_ne HO_3.out BK285.out (by decide)));have n1_:=Aside0.mk (hb);have n2_:=Aside0.mk (ho);clear BK285 HB HO_3;have BK285:=n0_;have HB:=n1_;have HO296:=n2_;clear n0_ n1_ n2_ ho hb hg hat))
             go_roundg kj17
             case measure => have:=HK1.out;have:=HJ6.out;have:=HJ10.out;have:=HJ17.out;omega
             case rel => exact ⟨(y294),(wrap64 (x9_1 + 1)),(by first|rfl|(simp;done)|(simp [*];done)),H',⟨by have:=HK1.out;have:=HJ6.out;have:=HJ10.out;have:=HJ17.out;omega⟩,⟨rU HO296.out⟩,⟨blkU BK285.out⟩,⟨by repeat (first|(with_reducible first|exact HB.out|apply below_alloc|apply pw_below_drewN|apply below_drew1|refine below_set ?_ GE285.out)|exact HB.out)⟩⟩
            ·
             rw [if_neg c22] at H
             exact absurd H (by simp)
           ·
            replace c21:=Bool.eq_false_iff.mpr c21;subst c21
            have H1 : (if a0_0 = 4 then (if x3_1.length < 17592186044416 then (impl_weightsOf.l0 kj17 (x3_1 ++ [wrap64 ((wrap64 ((wrap64 (2 * x5_6)) * x6_10)) - x5_6)]) (wrap64 (x9_1 + 1)) a0_0 a0_1 a0_2) else (none)) else (if a0_0 = 5 then (if x3_1.length < 17592186044416 then (impl_weightsOf.l0 kj17 (x3_1 ++ [wrap64 (x5_6 - (wrap64 ((wrap64 (2 * x5_6)) * x6_10)))]) (wrap64 (x9_1 + 1)) a0_0 a0_1 a0_2) else (none)) else (if x3_1.length < 17592186044416 then (impl_weightsOf.l0 kj17 (x3_1 ++ [(wrap64 (x5_6 * x6_10))]) (wrap64 (x9_1 + 1)) a0_0 a0_1 a0_2) else (none)))) = some r:=by rw [if_neg (show ¬ (false = true) by decide)] at H;exact H
            clear H;have H:=H1;clear H1
            by_cases c24 : a0_0 = 4
            ·
             rw [if_pos c24] at H
             have c24b0 : (a0_0 == 4) = true:=beq_iff_eq.mpr c24
             have c24b1 : (a0_0 != 4) = false:=bne_eq_false_iff_eq.mpr c24;clear c24
             by_cases c25 : x3_1.length < 17592186044416
             ·
              rw [if_pos c25] at H
              have LMc25:=Aside0.mk c25;clear c25
              obtain ⟨y297,hy297⟩ : ∃ y_ : List Int,y_ = (x3_1 ++ [wrap64 ((wrap64 ((wrap64 (2 * x5_6)) * x6_10)) - x5_6)]):=⟨_,rfl⟩
              replace H : (impl_weightsOf.l0 kj17 y297 (wrap64 (x9_1 + 1)) a0_0 a0_1 a0_2) = some r:=by first|(rw [hy297];with_reducible exact H)|(have H2_:=(Option.bind_some _ _).symm.trans H;rw [hy297];with_reducible exact H2_)|(have H2_:=(Option.bind_some _ _).symm.trans H;with_reducible exact H2_)|with_reducible exact H|(rw [hy297];exact H)|exact H
              have Ny297:=Aside0.mk hy297;clear hy297
              have H':=Aside0.mk H;clear H
              go_wp2_with (first|((with_reducible refine gate_builtin (b:=.append) (xs:=#[.tmp 53,.tmp 55]) rfl ?_);at_builtin;refine Kd.R_append (Kd.int .i64) (w0:=w) w.heap.size rfl (.tmp 53) (.tmp 55) 35 3 (.int .i64 0) 8 rfl Try.underlying35 info3 rfl (by decide) (by omega) u3 x3_1 (wrap64 ((wrap64 ((wrap64 (2 * x5_6)) * x6_10)) - x5_6)) [.int .i64 (wrap64 ((wrap64 ((wrap64 (2 * x5_6)) * x6_10)) - x5_6))] (fun _ => True) (fun _ => False) rfl rfl ?aP (fun _ hk => hk.elim) ?aF ?aO ?aB ?aS ?aL ?_;(case aP => exact rfl);(case aB => exact (by repeat (first|(with_reducible first|exact HB.out|apply below_alloc|apply pw_below_drewN|apply below_drew1|refine below_set ?_ GE285.out)|exact HB.out)));(case aF => exact (fun _ _ => trivial));(case aO => exact (rU HO_3.out));(case aS => exact (below_size (by repeat (first|(with_reducible first|exact HB.out|apply below_alloc|apply pw_below_drewN|apply below_drew1|refine below_set ?_ GE285.out)|exact HB.out))));(case aL => have:=LMc25.out;omega);intro v298 w26 ho hb hg hat;rw [← Ny297.out] at ho;have n0_:=Aside0.mk (blk_grown (g:=gb285) (o:=.cells #[.int .i64 a0_0,.int .i64 a0_1,.int .i64 a0_2] 29 (0,0)) (blkU BK285.out) hg (Kd.R_ne HO_3.out BK285.out (by decide)));have n1_:=Aside0.mk (hb);have n2_:=Aside0.mk (ho);clear BK285 HB HO_3;have BK285:=n0_;have HB:=n1_;have HO299:=n2_;clear n0_ n1_ n2_ ho hb hg hat))
              go_roundg kj17
              case measure => have:=HK1.out;have:=HJ6.out;have:=HJ10.out;have:=HJ17.out;omega
              case rel => exact ⟨(y297),(wrap64 (x9_1 + 1)),(by first|rfl|(simp;done)|(simp [*];done)),H',⟨by have:=HK1.out;have:=HJ6.out;have:=HJ10.out;have:=HJ17.out;omega⟩,⟨rU HO299.out⟩,⟨blkU BK285.out⟩,⟨by repeat (first|(with_reducible first|exact HB.out|apply below_alloc|apply pw_below_drewN|apply below_drew1|refine below_set ?_ GE285.out)|exact HB.out)⟩⟩
             ·
              rw [if_neg c25] at H
              exact absurd H (by simp)
            ·
             rw [if_neg c24] at H
             have c24b0 : (a0_0 == 4) = false:=beq_eq_false_iff_ne.mpr c24
             have c24b1 : (a0_0 != 4) = true:=bne_iff_ne.mpr c24
             by_cases c27 : a0_0 = 5
             ·
              rw [if_pos c27] at H
              have c27b0 : (a0_0 == 5) = true:=beq_iff_eq.mpr c27
              have c27b1 : (a0_0 != 5) = false:=bne_eq_false_iff_eq.mpr c27;clear c27
              by_cases c28 : x3_1.length < 17592186044416
              ·
               rw [if_pos c28] at H
               have LMc28:=Aside0.mk c28;clear c28
               obtain ⟨y300,hy300⟩ : ∃ y_ : List Int,y_ = (x3_1 ++ [wrap64 (x5_6 - (wrap64 ((wrap64 (2 * x5_6)) * x6_10)))]):=⟨_,rfl⟩
               replace H : (impl_weightsOf.l0 kj17 y300 (wrap64 (x9_1 + 1)) a0_0 a0_1 a0_2) = some r:=by first|(rw [hy300];with_reducible exact H)|(have H2_:=(Option.bind_some _ _).symm.trans H;rw [hy300];with_reducible exact H2_)|(have H2_:=(Option.bind_some _ _).symm.trans H;with_reducible exact H2_)|with_reducible exact H|(rw [hy300];exact H)|exact H
               have Ny300:=Aside0.mk hy300;clear hy300
               have H':=Aside0.mk H;clear H
               go_wp2_with (first|((with_reducible refine gate_builtin (b:=.append) (xs:=#[.tmp 53,.tmp 55]) rfl ?_);at_builtin;refine Kd.R_append (Kd.int .i64) (w0:=w) w.heap.size rfl (.tmp 53) (.tmp 55) 35 3 (.int .i64 0) 8 rfl Try.underlying35 info3 rfl (by decide) (by omega) u3 x3_1 (wrap64 (x5_6 - (wrap64 ((wrap64 (2 * x5_6)) * x6_10)))) [.int .i64 (wrap64 (x5_6 - (wrap64 ((wrap64 (2 * x5_6)) * x6_10))))] (fun _ => True) (fun _ => False) rfl rfl ?aP (fun _ hk => hk.elim) ?aF ?aO ?aB ?aS ?aL ?_;(case aP => exact rfl);(case aB => exact (by repeat (first|(with_reducible first|exact HB.out|apply below_alloc|apply pw_below_drewN|apply below_drew1|refine below_set ?_ GE285.out)|exact HB.out)));(case aF => exact (fun _ _ => trivial));(case aO => exact (rU HO_3.out));(case aS => exact (below_size (by repeat (first|(with_reducible first|exact HB.out|apply below_alloc|apply pw_below_drewN|apply below_drew1|refine below_set ?_ GE285.out)|exact HB.out))));(case aL => have:=LMc28.out;omega);intro v301 w29 ho hb hg hat;rw [← Ny300.out] at ho;have n0_:=Aside0.mk (blk_grown (g:=gb285) (o:=.cells #[.int .i64 a0_0,.int .i64 a0_1,.int .i64 a0_2] 29 (0,0)) (blkU BK285.out) hg (Kd.R_ne HO_3.out BK285.out (by decide)));have n1_:=Aside0.mk (hb);have n2_:=Aside0.mk (ho);clear BK285 HB HO_3;have BK285:=n0_;have HB:=n1_;have HO302:=n2_;clear n0_ n1_ n2_ ho hb hg hat))
               go_roundg kj17
               case measure => have:=HK1.out;have:=HJ6.out;have:=HJ10.out;have:=HJ17.out;omega
               case rel => exact ⟨(y300),(wrap64 (x9_1 + 1)),(by first|rfl|(simp;done)|(simp [*];done)),H',⟨by have:=HK1.out;have:=HJ6.out;have:=HJ10.out;have:=HJ17.out;omega⟩,⟨rU HO302.out⟩,⟨blkU BK285.out⟩,⟨by repeat (first|(with_reducible first|exact HB.out|apply below_alloc|apply pw_below_drewN|apply below_drew1|refine below_set ?_ GE285.out)|exact HB.out)⟩⟩
              ·
               rw [if_neg c28] at H
               exact absurd H (by simp)
             ·
              rw [if_neg c27] at H
              have c27b0 : (a0_0 == 5) = false:=beq_eq_false_iff_ne.mpr c27
              have c27b1 : (a0_0 != 5) = true:=bne_iff_ne.mpr c27
              by_cases c30 : x3_1.length < 17592186044416
              ·
               rw [if_pos c30] at H
               have LMc30:=Aside0.mk c30;clear c30
               obtain ⟨y303,hy303⟩ : ∃ y_ : List Int,y_ = (x3_1 ++ [(wrap64 (x5_6 * x6_10))]):=⟨_,rfl⟩
               replace H : (impl_weightsOf.l0 kj17 y303 (wrap64 (x9_1 + 1)) a0_0 a0_1 a0_2) = some r:=by first|(rw [hy303];with_reducible exact H)|(have H2_:=(Option.bind_some _ _).symm.trans H;rw [hy303];with_reducible exact H2_)|(have H2_:=(Option.bind_some _ _).symm.trans H;with_reducible exact H2_)|with_reducible exact H|(rw [hy303];exact H)|exact H
               have Ny303:=Aside0.mk hy303;clear hy303
               have H':=Aside0.mk H;clear H
               go_wp2_with (first|((with_reducible refine gate_builtin (b:=.append) (xs:=#[.tmp 53,.tmp 55]) rfl ?_);at_builtin;refine Kd.R_append (Kd.int .i64) (w0:=w) w.heap.size rfl (.tmp 53) (.tmp 55) 35 3 (.int .i64 0) 8 rfl Try.underlying35 info3 rfl (by decide) (by omega) u3 x3_1 (wrap64 (x5_6 * x6_10)) [.int .i64 (wrap64 (x5_6 * x6_10))] (fun _ => True) (fun _ => False) rfl rfl ?aP (fun _ hk => hk.elim) ?aF ?aO ?aB ?aS ?aL ?_;(case aP => exact rfl);(case aB => exact (by repeat (first|(with_reducible first|exact HB.out|apply below_alloc|apply pw_below_drewN|apply below_drew1|refine below_set ?_ GE285.out)|exact HB.out)));(case aF => exact (fun _ _ => trivial));(case aO => exact (rU HO_3.out));(case aS => exact (below_size (by repeat (first|(with_reducible first|exact HB.out|apply below_alloc|apply pw_below_drewN|apply below_drew1|refine below_set ?_ GE285.out)|exact HB.out))));(case aL => have:=LMc30.out;omega);intro v304 w31 ho hb hg hat;rw [← Ny303.out] at ho;have n0_:=Aside0.mk (blk_grown (g:=gb285) (o:=.cells #[.int .i64 a0_0,.int .i64 a0_1,.int .i64 a0_2] 29 (0,0)) (blkU BK285.out) hg (Kd.R_ne HO_3.out BK285.out (by decide)));have n1_:=Aside0.mk (hb);have n2_:=Aside0.mk (ho);clear BK285 HB HO_3;have BK285:=n0_;have HB:=n1_;have HO305:=n2_;clear n0_ n1_ n2_ ho hb hg hat))
               go_roundg kj17
               case measure => have:=HK1.out;have:=HJ6.out;have:=HJ10.out;have:=HJ17.out;omega
               case rel => exact ⟨(y303),(wrap64 (x9_1 + 1)),(by first|rfl|(simp;done)|(simp [*];done)),H',⟨by have:=HK1.out;have:=HJ6.out;have:=HJ10.out;have:=HJ17.out;omega⟩,⟨rU HO305.out⟩,⟨blkU BK285.out⟩,⟨by repeat (first|(with_reducible first|exact HB.out|apply below_alloc|apply pw_below_drewN|apply below_drew1|refine below_set ?_ GE285.out)|exact HB.out)⟩⟩
              ·
               rw [if_neg c30] at H
               exact absurd H (by simp)
   ·
    rw [if_neg c5] at H
    have c5b0 : decide (x9_1 < 4) = false:=decide_eq_false c5;clear c5
    obtain rfl:=Option.some.inj H
    go_wp2
    go_ret
    exact ⟨_,by first|rfl|(simp [errW_none,errW_some] <;> rfl)|(simp [*,errW_none,errW_some] <;> rfl),rU HO_3.out,by repeat (first|(with_reducible first|exact HB.out|apply below_alloc|apply pw_below_drewN|apply below_drew1|refine below_set ?_ GE285.out)|exact HB.out)⟩

end Go.Proofs.Ytmbninbecclbiaa.PA
