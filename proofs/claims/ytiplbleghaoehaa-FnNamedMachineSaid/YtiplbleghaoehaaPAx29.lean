/- The machine side of functions of this seat, written by the session's program myprint.py: for each Go function a Lean function and the proof that the call answers just it. -/
import Derived.Test.YtiplbleghaoehaaPAx0
import Derived.Test.YtiplbleghaoehaaUp
import Derived.Test.YtiplbleghaoehaaPAx27
import Derived.Test.YtiplbleghaoehaaPAx28
namespace Go.Proofs.Ytiplbleghaoehaa.PA
open Go.RowKit Go.Proofs.YtiplbleghaoehaaW.PrintWords Go.Proofs.YtiplbleghaoehaaW.PrintLast Go.Proofs.YtiplbleghaoehaaW.PrintMore
attribute [local go_sem] max2_int min2_int max_two min_two max_three min_three max_four min_four   -- for this text's walks alone
set_option linter.unusedVariables false
set_option linter.unusedSimpArgs false

/-! ### spec_TriangleOf: function 15 -/
mutual
def spec_TriangleOf.l0 : Nat → List Int → Int → List Int → List Int → List Int → Option (List Int)
 | 0,_,_,_,_,_ => none
 | k + 1,x3,x4,x519000,x519001,x519002 => if x4 ≤ 5 then ((spec_AnyOrder.f k x519000 x519001 x519002).bind fun t522 => (spec_TriangleOf.j1 k x3 x4 t522 x519000 x519001 x519002)) else (spec_TriangleOf.j1 k x3 x4 false x519000 x519001 x519002)
def spec_TriangleOf.j1 : Nat → List Int → Int → Bool → List Int → List Int → List Int → Option (List Int)
 | 0,_,_,_,_,_,_ => none
 | k + 1,x3,x4,x14,x519000,x519001,x519002 => if x14 = true then (spec_TriangleOf.l1 k x3 x4 0 x519000 x519001 x519002) else (some x3)
def spec_TriangleOf.l1 : Nat → List Int → Int → Int → List Int → List Int → List Int → Option (List Int)
 | 0,_,_,_,_,_,_ => none
 | k + 1,x3,x4,x5,x519000,x519001,x519002 => if x5 ≤ x4 then (spec_TriangleOf.l2 k x3 x4 x5 (⟨#[]⟩ : ByteArray) 0 x519000 x519001 x519002) else (spec_TriangleOf.l0 k x3 (wrap64 (x4 + 1)) x519000 x519001 x519002)
def spec_TriangleOf.l2 : Nat → List Int → Int → Int → ByteArray → Int → List Int → List Int → List Int → Option (List Int)
 | 0,_,_,_,_,_,_,_,_ => none
 | k + 1,x3,x4,x5,x6,x7,x519000,x519001,x519002 => if x7 < x4 then (if x7 < (wrap64 (x4 - x5)) then (if x6.size + 1 ≤ 9223372036854775807 then (spec_TriangleOf.l2 k x3 x4 x5 (x6 ++ (⟨#[48]⟩ : ByteArray)) (wrap64 (x7 + 1)) x519000 x519001 x519002) else (none)) else (if x6.size + 1 ≤ 9223372036854775807 then (spec_TriangleOf.l2 k x3 x4 x5 (x6 ++ (⟨#[49]⟩ : ByteArray)) (wrap64 (x7 + 1)) x519000 x519001 x519002) else (none))) else ((spec_l4State.f k x519000 x519001 x519002 x6).bind fun t523 => (if 0 ≤ t523 then (if t523 < (x519002.length : Int) then (if x3.length < 17592186044416 then (spec_TriangleOf.l1 k (x3 ++ [rd x519002 t523]) x4 (wrap64 (x5 + 1)) x519000 x519001 x519002) else (none)) else (none)) else (none)))
end
def spec_TriangleOf.f (k : Nat) (l0_0 : List Int) (l0_1 : List Int) (l0_2 : List Int) : Option (List Int):=spec_TriangleOf.l0 k (([] : List Int)) 0 l0_0 l0_1 l0_2
theorem spec_TriangleOf.mono_l : ∀ k,(∀ y0 y1 y2 y3 y4,LeO (spec_TriangleOf.l0 k y0 y1 y2 y3 y4) (spec_TriangleOf.l0 (k + 1) y0 y1 y2 y3 y4)) ∧ (∀ y0 y1 y2 y3 y4 y5,LeO (spec_TriangleOf.j1 k y0 y1 y2 y3 y4 y5) (spec_TriangleOf.j1 (k + 1) y0 y1 y2 y3 y4 y5)) ∧ (∀ y0 y1 y2 y3 y4 y5,LeO (spec_TriangleOf.l1 k y0 y1 y2 y3 y4 y5) (spec_TriangleOf.l1 (k + 1) y0 y1 y2 y3 y4 y5)) ∧ (∀ y0 y1 y2 y3 y4 y5 y6 y7,LeO (spec_TriangleOf.l2 k y0 y1 y2 y3 y4 y5 y6 y7) (spec_TriangleOf.l2 (k + 1) y0 y1 y2 y3 y4 y5 y6 y7))
 | 0 => ⟨fun _ _ _ _ _ r h => by simp [spec_TriangleOf.l0] at h,fun _ _ _ _ _ _ r h => by simp [spec_TriangleOf.j1] at h,fun _ _ _ _ _ _ r h => by simp [spec_TriangleOf.l1] at h,fun _ _ _ _ _ _ _ _ r h => by simp [spec_TriangleOf.l2] at h⟩
 | k + 1 => by
  obtain ⟨ih0,ih1,ih2,ih3⟩:=spec_TriangleOf.mono_l k
  refine ⟨?_,?_,?_,?_⟩
  ·
   intro y0 y1 y2 y3 y4
   unfold spec_TriangleOf.l0
   repeat' first
   | (with_reducible exact ih0 _ _ _ _ _)
   | (with_reducible exact ih1 _ _ _ _ _ _)
   | (with_reducible exact ih2 _ _ _ _ _ _)
   | (with_reducible exact ih3 _ _ _ _ _ _ _ _)
   | (with_reducible exact spec_AnyOrder.mono _ _ _ _)
   | (with_reducible exact spec_l4State.mono _ _ _ _ _)
   | (with_reducible exact LeO.refl _)
   | (with_reducible exact LeO.none _)
   | (with_reducible refine LeO.ite ?_ ?_)
   | (with_reducible refine LeO.bind ?_ (fun _ => ?_))
   | exact ih0 _ _ _ _ _
   | exact ih1 _ _ _ _ _ _
   | exact ih2 _ _ _ _ _ _
   | exact ih3 _ _ _ _ _ _ _ _
   | exact spec_AnyOrder.mono _ _ _ _
   | exact spec_l4State.mono _ _ _ _ _
   | exact LeO.none _
   | refine LeO.ite ?_ ?_
   | refine LeO.bind ?_ (fun _ => ?_)
  ·
   intro y0 y1 y2 y3 y4 y5
   unfold spec_TriangleOf.j1
   repeat' first
   | (with_reducible exact ih0 _ _ _ _ _)
   | (with_reducible exact ih1 _ _ _ _ _ _)
   | (with_reducible exact ih2 _ _ _ _ _ _)
   | (with_reducible exact ih3 _ _ _ _ _ _ _ _)
   | (with_reducible exact spec_AnyOrder.mono _ _ _ _)
   | (with_reducible exact spec_l4State.mono _ _ _ _ _)
   | (with_reducible exact LeO.refl _)
   | (with_reducible exact LeO.none _)
   | (with_reducible refine LeO.ite ?_ ?_)
   | (with_reducible refine LeO.bind ?_ (fun _ => ?_))
   | exact ih0 _ _ _ _ _
   | exact ih1 _ _ _ _ _ _
   | exact ih2 _ _ _ _ _ _
   | exact ih3 _ _ _ _ _ _ _ _
   | exact spec_AnyOrder.mono _ _ _ _
   | exact spec_l4State.mono _ _ _ _ _
   | exact LeO.none _
   | refine LeO.ite ?_ ?_
   | refine LeO.bind ?_ (fun _ => ?_)
  ·
   intro y0 y1 y2 y3 y4 y5
   unfold spec_TriangleOf.l1
   repeat' first
   | (with_reducible exact ih0 _ _ _ _ _)
   | (with_reducible exact ih1 _ _ _ _ _ _)
   | (with_reducible exact ih2 _ _ _ _ _ _)
   | (with_reducible exact ih3 _ _ _ _ _ _ _ _)
   | (with_reducible exact spec_AnyOrder.mono _ _ _ _)
   | (with_reducible exact spec_l4State.mono _ _ _ _ _)
   | (with_reducible exact LeO.refl _)
   | (with_reducible exact LeO.none _)
   | (with_reducible refine LeO.ite ?_ ?_)
   | (with_reducible refine LeO.bind ?_ (fun _ => ?_))
   | exact ih0 _ _ _ _ _
   | exact ih1 _ _ _ _ _ _
   | exact ih2 _ _ _ _ _ _
   | exact ih3 _ _ _ _ _ _ _ _
   | exact spec_AnyOrder.mono _ _ _ _
   | exact spec_l4State.mono _ _ _ _ _
   | exact LeO.none _
   | refine LeO.ite ?_ ?_
   | refine LeO.bind ?_ (fun _ => ?_)
  ·
   intro y0 y1 y2 y3 y4 y5 y6 y7
   unfold spec_TriangleOf.l2
   repeat' first
   | (with_reducible exact ih0 _ _ _ _ _)
   | (with_reducible exact ih1 _ _ _ _ _ _)
   | (with_reducible exact ih2 _ _ _ _ _ _)
   | (with_reducible exact ih3 _ _ _ _ _ _ _ _)
   | (with_reducible exact spec_AnyOrder.mono _ _ _ _)
   | (with_reducible exact spec_l4State.mono _ _ _ _ _)
   | (with_reducible exact LeO.refl _)
   | (with_reducible exact LeO.none _)
   | (with_reducible refine LeO.ite ?_ ?_)
   | (with_reducible refine LeO.bind ?_ (fun _ => ?_))
   | exact ih0 _ _ _ _ _
   | exact ih1 _ _ _ _ _ _
   | exact ih2 _ _ _ _ _ _
   | exact ih3 _ _ _ _ _ _ _ _
   | exact spec_AnyOrder.mono _ _ _ _
   | exact spec_l4State.mono _ _ _ _ _
   | exact LeO.none _
   | refine LeO.ite ?_ ?_
   | refine LeO.bind ?_ (fun _ => ?_)
theorem spec_TriangleOf.mono : ∀ a0 a1 a2 k,LeO (spec_TriangleOf.f k a0 a1 a2) (spec_TriangleOf.f (k + 1) a0 a1 a2):=by
 intro a0 a1 a2 k
 obtain ⟨ih0,ih1,ih2,ih3⟩:=spec_TriangleOf.mono_l k
 unfold spec_TriangleOf.f
 repeat' first
   | (with_reducible exact ih0 _ _ _ _ _)
   | (with_reducible exact ih1 _ _ _ _ _ _)
   | (with_reducible exact ih2 _ _ _ _ _ _)
   | (with_reducible exact ih3 _ _ _ _ _ _ _ _)
   | (with_reducible exact spec_AnyOrder.mono _ _ _ _)
   | (with_reducible exact spec_l4State.mono _ _ _ _ _)
   | (with_reducible exact LeO.refl _)
   | (with_reducible exact LeO.none _)
   | (with_reducible refine LeO.ite ?_ ?_)
   | (with_reducible refine LeO.bind ?_ (fun _ => ?_))
   | exact ih0 _ _ _ _ _
   | exact ih1 _ _ _ _ _ _
   | exact ih2 _ _ _ _ _ _
   | exact ih3 _ _ _ _ _ _ _ _
   | exact spec_AnyOrder.mono _ _ _ _
   | exact spec_l4State.mono _ _ _ _ _
   | exact LeO.none _
   | refine LeO.ite ?_ ?_
   | refine LeO.bind ?_ (fun _ => ?_)
def spec_TriangleOf.T15 : Bool × List (List Nat × List Nat):=(true,[([],[]),([],[]),([1],[1]),([],[]),([],[]),([3,4],[3,4]),([2,5],[2,5]),([6],[6]),([7],[7]),([0,8,5],[0,8]),([9,9,0,1,2,3,4,5,6,7,8,9],[0,9])])
def spec_TriangleOf.B15 : List Nat:=[0,0,2,0,0,24,62,126,254,511,1023]
theorem spec_TriangleOf.tab15 : rtab .any (opsOf Try.f15 15) = spec_TriangleOf.T15:=by kernel_rfl
theorem spec_TriangleOf.bits15 : waitsOk spec_TriangleOf.T15.2 spec_TriangleOf.B15 = true:=by kernel_rfl
set_option maxHeartbeats 8000000 in
set_option maxRecDepth 100000 in
theorem spec_TriangleOf.calls (k : Nat) (A0_0 : Option Addr) (c0_0 : Nat) (l0_0 : List Int) (A0_1 : Option Addr) (c0_1 : Nat) (l0_1 : List Int) (A0_2 : Option Addr) (c0_2 : Nat) (l0_2 : List Int) (r : List Int) (w : World) (hr0_0 : Kd.C (Kd.int .i64) w A0_0 l0_0.length l0_0) (hc0_0 : l0_0.length ≤ c0_0) (hr0_1 : Kd.C (Kd.int .i64) w A0_1 l0_1.length l0_1) (hc0_1 : l0_1.length ≤ c0_1) (hr0_2 : Kd.C (Kd.int .i64) w A0_2 l0_2.length l0_2) (hc0_2 : l0_2.length ≤ c0_2) (h : spec_TriangleOf.f k l0_0 l0_1 l0_2 = some r) :
  Calls Try.prog 15 #[.agg #[.slice A0_0 l0_0.length c0_0,.slice A0_1 l0_1.length c0_1,.slice A0_2 l0_2.length c0_2]] w fun e w' => ∃ v0_ : Value,e = .returned (v0_) ∧ Kd.R (Kd.int .i64) 3 w' w.heap.size (fun _ => True) v0_ r ∧ Below w.heap.size w w':=by
 have hu26:=Try.underlying26
 have HR0_0:=Aside0.mk hr0_0
 have HC0_0:=Aside0.mk hc0_0;clear hr0_0 hc0_0
 have HR0_1:=Aside0.mk hr0_1
 have HC0_1:=Aside0.mk hc0_1;clear hr0_1 hc0_1
 have HR0_2:=Aside0.mk hr0_2
 have HC0_2:=Aside0.mk hc0_2;clear hr0_2 hc0_2;have HB:=Aside0.mk (Below.refl w.heap.size w)
 have H : (spec_TriangleOf.l0 k (([] : List Int)) 0 l0_0 l0_1 l0_2) = some r:=h;clear h
 obtain ⟨y519,hy519⟩ : ∃ y_ : List Int,y_ = (([] : List Int)):=⟨_,rfl⟩
 replace H : (spec_TriangleOf.l0 k y519 0 l0_0 l0_1 l0_2) = some r:=by first|(rw [hy519];with_reducible exact H)|(have H2_:=(Option.bind_some _ _).symm.trans H;rw [hy519];with_reducible exact H2_)|(have H2_:=(Option.bind_some _ _).symm.trans H;with_reducible exact H2_)|with_reducible exact H|(rw [hy519];exact H)|exact H
 have Ny519:=Aside0.mk hy519;clear hy519
 have H':=Aside0.mk H;clear H
 go_enter Try.func15,Try.ntmps15
 go_wp2_with (first|((with_reducible refine gate_dst (N:=1) rfl ?_);refine box_event ?hg (N:=1) ?hd (cs:=#[.slice A0_0 l0_0.length c0_0,.slice A0_1 l0_1.length c0_1,.slice A0_2 l0_2.length c0_2]) (t:=26) ?hr ?_;(case hd => rfl);(case hg => rfl);(case hr => first|(go_simp;done)|(go_simp;rfl));intro gb518 hg w2 hbox hb;have n0_:=Aside0.mk (below_step (belU HB.out) hb);have n1_:=Aside0.mk (hbox);have n2_:=Aside0.mk ((by rw [hg];exact (below_size (belU HB.out)) : w.heap.size ≤ gb518));have n3_:=Aside0.mk ((by rw [hg];exact (below_size (belU HB.out)) : w.heap.size ≤ gb518));clear HB;have HB:=n0_;have BK518:=n1_;have GW518:=n2_;have GE518:=n3_;clear n0_ n1_ n2_ n3_ hb hbox hg)|((with_reducible refine gate_dst (N:=8) rfl ?_);refine Kd.R_lit (Kd.int .i64) _ 3 ?hg (N:=8) ?hd (xs:=([] : List Int)) (inner:=[]) (ok:=fun _ => True) (okp:=fun _ => True) ?hr ?hp (fun _ hk => hk) trivial (Below.refl _ _) (Nat.le_refl _) (by simp) ?_;(case hd => rfl);(case hg => rfl);(case hr => first|(go_simp;done)|(go_simp;rfl));(case hp => exact (Reps.none _ _));intro v520 w3 ho4 hb hg_ hnew_;clear hg_ hnew_;(first|rw [← Ny519.out] at ho4|(simp only [Int.reduceToNat] at ho4;rw [← Ny519.out] at ho4));have n0_:=Aside0.mk (Kd.R_lower ho4 (below_size (by repeat (first|(with_reducible first|exact HB.out|apply below_alloc|apply pw_below_drewN|apply below_drew1|refine below_set ?_ GE518.out)|exact HB.out))));have n1_:=Aside0.mk (blk_below (g:=gb518) (o:=.cells #[.slice A0_0 l0_0.length c0_0,.slice A0_1 l0_1.length c0_1,.slice A0_2 l0_2.length c0_2] 26 (0,0)) (blkU BK518.out) hb);have n2_:=Aside0.mk (below_step (by repeat (first|(with_reducible first|exact HB.out|apply below_alloc|apply pw_below_drewN|apply below_drew1|refine below_set ?_ GE518.out)|exact HB.out)) hb);clear BK518 HB;have HO521:=n0_;have BK518:=n1_;have HB:=n2_;clear n0_ n1_ n2_ hb ho4))
 go_loopg [3,4] k (fun kq v3 v4 w' => ∃ (x3_1 : List Int) (x4_1 : Int),v4 = .int .i64 x4_1 ∧ Aside0 (spec_TriangleOf.l0 kq x3_1 x4_1 l0_0 l0_1 l0_2 = some r) ∧ Aside0 (kq ≤ k) ∧ Aside0 (Kd.R (Kd.int .i64) 3 w' w.heap.size (fun _ => True) v3 x3_1) ∧ Aside0 (w'.heap[gb518]? = some (.cells #[(.slice A0_0 l0_0.length c0_0),(.slice A0_1 l0_1.length c0_1),(.slice A0_2 l0_2.length c0_2)] 26 (0,0))) ∧ Aside0 (Below w.heap.size w w'))
 case atStart => exact ⟨(y519),(0),(by first|rfl|(simp;done)|(simp [*];done)),H',⟨Nat.le_refl _⟩,⟨rU HO521.out⟩,⟨blkU BK518.out⟩,⟨by repeat (first|(with_reducible first|exact HB.out|apply below_alloc|apply pw_below_drewN|apply below_drew1|refine below_set ?_ GE518.out)|exact HB.out)⟩⟩
 case round =>
  clear H'
  try clear c1
  try clear p2
  obtain ⟨x3_1,x4_1,rfl,HA,HK1,HO_3,BK518,HB⟩:=hrel
  cases gk with
  | zero => exact absurd HA.out (by simp [spec_TriangleOf.l0])
  | succ k1 =>
   have H:=HA.out;clear HA
   simp only [spec_TriangleOf.l0] at H
   have HC5:=Aside0.mk H;clear H
   go_upto_region 3 with (fail)
   go_cut [14] (fun v14 wc => ∃ (kq : Nat) (x14_4 : Bool),v14 = .bool x14_4 ∧ Aside0 (spec_TriangleOf.j1 kq x3_1 x4_1 x14_4 l0_0 l0_1 l0_2 = some r) ∧ Aside0 (kq ≤ k1) ∧ Aside0 (Kd.R (Kd.int .i64) 3 wc w.heap.size (fun _ => True) u3 x3_1) ∧ Aside0 (wc.heap[gb518]? = some (.cells #[(.slice A0_0 l0_0.length c0_0),(.slice A0_1 l0_1.length c0_1),(.slice A0_2 l0_2.length c0_2)] 26 (0,0))) ∧ Aside0 (Below w.heap.size w wc))
   case first =>
    have H:=HC5.out;clear HC5
    by_cases c6 : x4_1 ≤ 5
    ·
     rw [if_pos c6] at H
     have c6b0 : decide (x4_1 ≤ 5) = true:=decide_eq_true c6;clear c6
     (first|rw [c6b0]|(simp only [i64_w,i32_w];rw [c6b0])|skip)
     replace H:=Option.bind_eq_some_iff.mp H
     obtain ⟨t522,A70,H⟩:=H
     replace H : (spec_TriangleOf.j1 k1 x3_1 x4_1 t522 l0_0 l0_1 l0_2) = some r:=H
     have A7:=Aside0.mk A70;clear A70
     have H':=Aside0.mk H;clear H
     have hcz8_0 : wr.cell? ⟨gb518,0,none⟩ = some (.slice A0_0 l0_0.length c0_0):=(blk_cell BK518.out 0).trans rfl
     have hcz8_1 : wr.cell? ⟨gb518,1,none⟩ = some (.slice A0_1 l0_1.length c0_1):=(blk_cell BK518.out 1).trans rfl
     have hcz8_2 : wr.cell? ⟨gb518,2,none⟩ = some (.slice A0_2 l0_2.length c0_2):=(blk_cell BK518.out 2).trans rfl
     have hfz8_0:=blk_frozen BK518.out 0
     have hfz8_1:=blk_frozen BK518.out 1
     have hfz8_2:=blk_frozen BK518.out 2
     go_wp2_with (first|(go_at_call 34;(with_reducible refine (spec_AnyOrder.calls k1 _ _ l0_0 _ _ l0_1 _ _ l0_2 t522 _ ?side1 ?side2 ?side3 ?side4 ?side5 ?side6 A7.out).mono ?_);(case side1 => exact cU (Kd.C_below HR0_0.out HB.out));(case side2 => exact HC0_0.out);(case side3 => exact cU (Kd.C_below HR0_1.out HB.out));(case side4 => exact HC0_1.out);(case side5 => exact cU (Kd.C_below HR0_2.out HB.out));(case side6 => exact HC0_2.out);rintro e w9 ⟨rfl,hb⟩;have n0_:=Aside0.mk (Kd.R_below (rU HO_3.out) hb);have n1_:=Aside0.mk (blk_below (g:=gb518) (o:=.cells #[.slice A0_0 l0_0.length c0_0,.slice A0_1 l0_1.length c0_1,.slice A0_2 l0_2.length c0_2] 26 (0,0)) (blkU BK518.out) hb);have n2_:=Aside0.mk (below_step (by repeat (first|(with_reducible first|exact HB.out|apply below_alloc|apply pw_below_drewN|apply below_drew1|refine below_set ?_ GE518.out)|exact HB.out)) hb);clear HO_3 BK518 HB;have HO_3:=n0_;have BK518:=n1_;have HB:=n2_;clear n0_ n1_ n2_;(try clear hb);(try clear hb2);(try clear hk);(try clear hi)))
     go_meet
     case rel => exact ⟨_,(t522),(by first|rfl|(simp;done)|(simp [*];done)),H',⟨by have:=HK1.out;first|omega|exact Nat.le_refl _⟩,⟨rU HO_3.out⟩,⟨blkU BK518.out⟩,⟨by repeat (first|(with_reducible first|exact HB.out|apply below_alloc|apply pw_below_drewN|apply below_drew1|refine below_set ?_ GE518.out)|exact HB.out)⟩⟩
    ·
     rw [if_neg c6] at H
     have c6b0 : decide (x4_1 ≤ 5) = false:=decide_eq_false c6;clear c6
     (first|rw [c6b0]|(simp only [i64_w,i32_w];rw [c6b0])|skip)
     have H':=Aside0.mk H;clear H
     go_wp2
     go_meet
     case rel => exact ⟨_,(false),(by first|rfl|(simp;done)|(simp [*];done)),H',⟨by have:=HK1.out;first|omega|exact Nat.le_refl _⟩,⟨rU HO_3.out⟩,⟨blkU BK518.out⟩,⟨by repeat (first|(with_reducible first|exact HB.out|apply below_alloc|apply pw_below_drewN|apply below_drew1|refine below_set ?_ GE518.out)|exact HB.out)⟩⟩
   case rest =>
    clear HC5
    try clear c1
    try clear p2
    try clear c6
    try clear c6b0
    try clear hcz8_0
    try clear hcz8_1
    try clear hcz8_2
    try clear hfz8_0
    try clear hfz8_1
    try clear hfz8_2
    try clear p2
    obtain ⟨kq,x14_4,rfl,HA,HJ4,HO_3,BK518,HB⟩:=hcut
    cases kq with
    | zero => exact absurd HA.out (by simp [spec_TriangleOf.j1])
    | succ kj4 =>
     have H:=HA.out;clear HA
     simp only [spec_TriangleOf.j1] at H
     by_cases c10 : x14_4 = true
     ·
      subst c10
      have H1 : (spec_TriangleOf.l1 kj4 x3_1 x4_1 0 l0_0 l0_1 l0_2) = some r:=by rw [if_pos rfl] at H;exact H
      clear H;have H:=H1;clear H1
      have H':=Aside0.mk H;clear H
      go_wp2
      go_loopg [3,5] kj4 (fun kq v3 v5 w' => ∃ (x3_3 : List Int) (x5_3 : Int),v5 = .int .i64 x5_3 ∧ Aside0 (spec_TriangleOf.l1 kq x3_3 x4_1 x5_3 l0_0 l0_1 l0_2 = some r) ∧ Aside0 (kq ≤ kj4) ∧ Aside0 (Kd.R (Kd.int .i64) 3 w' w.heap.size (fun _ => True) v3 x3_3) ∧ Aside0 (w'.heap[gb518]? = some (.cells #[(.slice A0_0 l0_0.length c0_0),(.slice A0_1 l0_1.length c0_1),(.slice A0_2 l0_2.length c0_2)] 26 (0,0))) ∧ Aside0 (Below w.heap.size w w'))
      case atStart => exact ⟨(x3_1),(0),(by first|rfl|(simp;done)|(simp [*];done)),H',⟨Nat.le_refl _⟩,⟨rU HO_3.out⟩,⟨blkU BK518.out⟩,⟨by repeat (first|(with_reducible first|exact HB.out|apply below_alloc|apply pw_below_drewN|apply below_drew1|refine below_set ?_ GE518.out)|exact HB.out)⟩⟩
      case round =>
       clear H'
       try clear c1
       try clear p2
       try clear c6
       try clear c6b0
       try clear c10
       try clear hcz8_0
       try clear hcz8_1
       try clear hcz8_2
       try clear hfz8_0
       try clear hfz8_1
       try clear hfz8_2
       try clear p2
       obtain ⟨x3_3,x5_3,rfl,HA,HK3,HO_3,BK518,HB⟩:=hrel
       cases gk with
       | zero => exact absurd HA.out (by simp [spec_TriangleOf.l1])
       | succ k3 =>
        have H:=HA.out;clear HA
        simp only [spec_TriangleOf.l1] at H
        by_cases c11 : x5_3 ≤ x4_1
        ·
         rw [if_pos c11] at H
         have c11b0 : decide (x5_3 ≤ x4_1) = true:=decide_eq_true c11;clear c11
         have H':=Aside0.mk H;clear H
         go_wp2
         go_loopg [6,7] k3 (fun kq v6 v7 w' => ∃ (x6_4 : ByteArray) (x7_4 : Int),v6 = .string x6_4 ∧ v7 = .int .i64 x7_4 ∧ Aside0 (spec_TriangleOf.l2 kq x3_3 x4_1 x5_3 x6_4 x7_4 l0_0 l0_1 l0_2 = some r) ∧ Aside0 (kq ≤ k3) ∧ Aside0 (Kd.R (Kd.int .i64) 3 w' w.heap.size (fun _ => True) u3 x3_3) ∧ Aside0 (w'.heap[gb518]? = some (.cells #[(.slice A0_0 l0_0.length c0_0),(.slice A0_1 l0_1.length c0_1),(.slice A0_2 l0_2.length c0_2)] 26 (0,0))) ∧ Aside0 (Below w.heap.size w w'))
         case atStart => exact ⟨((⟨#[]⟩ : ByteArray)),(0),(by first|rfl|(simp;done)|(simp [*];done)),(by first|rfl|(simp;done)|(simp [*];done)),H',⟨Nat.le_refl _⟩,⟨rU HO_3.out⟩,⟨blkU BK518.out⟩,⟨by repeat (first|(with_reducible first|exact HB.out|apply below_alloc|apply pw_below_drewN|apply below_drew1|refine below_set ?_ GE518.out)|exact HB.out)⟩⟩
         case round =>
          clear H'
          try clear c1
          try clear p2
          try clear c6
          try clear c6b0
          try clear c10
          try clear c11
          try clear c11b0
          try clear hcz8_0
          try clear hcz8_1
          try clear hcz8_2
          try clear hfz8_0
          try clear hfz8_1
          try clear hfz8_2
          try clear p2
          obtain ⟨x6_4,x7_4,rfl,rfl,HA,HK4,HO_3,BK518,HB⟩:=hrel
          cases gk with
          | zero => exact absurd HA.out (by simp [spec_TriangleOf.l2])
          | succ k4 =>
           have H:=HA.out;clear HA
           simp only [spec_TriangleOf.l2] at H
           by_cases c12 : x7_4 < x4_1
           ·
            rw [if_pos c12] at H
            have c12b0 : decide (x7_4 < x4_1) = true:=decide_eq_true c12;clear c12
            by_cases c13 : x7_4 < (wrap64 (x4_1 - x5_3))
            ·
             rw [if_pos c13] at H
             have c13b0 : decide (x7_4 < (wrap64 (x4_1 - x5_3))) = true:=decide_eq_true c13;clear c13
             by_cases c14 : x6_4.size + 1 ≤ 9223372036854775807
             ·
              rw [if_pos c14] at H
              have c14b0:=eq_true c14
              have c14b1 : decide (x6_4.size + 1 ≤ 9223372036854775807) = true:=decide_eq_true c14
              try have c14b2 : (9223372036854775807 < x6_4.size + 1) = False:=eq_false (Nat.not_lt.2 c14)
              have zl0 : (⟨#[48]⟩ : ByteArray).size = 1:=rfl
              have zl1 : (⟨#[49]⟩ : ByteArray).size = 1:=rfl
              have zl2 : (⟨#[]⟩ : ByteArray).size = 0:=rfl;have c14n:=c14
              (try simp only [ByteArray.size_append,zl0,zl1,zl2,Nat.reduceAdd] at c14n)
              (try have c14n0:=eq_true c14n)
              (try have c14n1:=decide_eq_true c14n)
              (try have c14n2:=eq_false (Nat.not_lt.2 c14n));clear zl0 zl1 zl2
              have H':=Aside0.mk H;clear H
              go_wp2
              go_roundg k4
              case measure => have:=HK1.out;have:=HJ4.out;have:=HK3.out;have:=HK4.out;omega
              case rel => exact ⟨(x6_4 ++ (⟨#[48]⟩ : ByteArray)),(wrap64 (x7_4 + 1)),(by first|rfl|(simp;done)|(simp [*];done)),(by first|rfl|(simp;done)|(simp [*];done)),H',⟨by have:=HK1.out;have:=HJ4.out;have:=HK3.out;have:=HK4.out;omega⟩,⟨rU HO_3.out⟩,⟨blkU BK518.out⟩,⟨by repeat (first|(with_reducible first|exact HB.out|apply below_alloc|apply pw_below_drewN|apply below_drew1|refine below_set ?_ GE518.out)|exact HB.out)⟩⟩
             ·
              rw [if_neg c14] at H
              exact absurd H (by simp)
            ·
             rw [if_neg c13] at H
             have c13b0 : decide (x7_4 < (wrap64 (x4_1 - x5_3))) = false:=decide_eq_false c13;clear c13
             by_cases c15 : x6_4.size + 1 ≤ 9223372036854775807
             ·
              rw [if_pos c15] at H
              have c15b0:=eq_true c15
              have c15b1 : decide (x6_4.size + 1 ≤ 9223372036854775807) = true:=decide_eq_true c15
              try have c15b2 : (9223372036854775807 < x6_4.size + 1) = False:=eq_false (Nat.not_lt.2 c15)
              have zl0 : (⟨#[48]⟩ : ByteArray).size = 1:=rfl
              have zl1 : (⟨#[49]⟩ : ByteArray).size = 1:=rfl
              have zl2 : (⟨#[]⟩ : ByteArray).size = 0:=rfl;have c15n:=c15
              (try simp only [ByteArray.size_append,zl0,zl1,zl2,Nat.reduceAdd] at c15n)
              (try have c15n0:=eq_true c15n)
              (try have c15n1:=decide_eq_true c15n)
              (try have c15n2:=eq_false (Nat.not_lt.2 c15n));clear zl0 zl1 zl2
              have H':=Aside0.mk H;clear H
              go_wp2
              go_roundg k4
              case measure => have:=HK1.out;have:=HJ4.out;have:=HK3.out;have:=HK4.out;omega
              case rel => exact ⟨(x6_4 ++ (⟨#[49]⟩ : ByteArray)),(wrap64 (x7_4 + 1)),(by first|rfl|(simp;done)|(simp [*];done)),(by first|rfl|(simp;done)|(simp [*];done)),H',⟨by have:=HK1.out;have:=HJ4.out;have:=HK3.out;have:=HK4.out;omega⟩,⟨rU HO_3.out⟩,⟨blkU BK518.out⟩,⟨by repeat (first|(with_reducible first|exact HB.out|apply below_alloc|apply pw_below_drewN|apply below_drew1|refine below_set ?_ GE518.out)|exact HB.out)⟩⟩
             ·
              rw [if_neg c15] at H
              exact absurd H (by simp)
           ·
            rw [if_neg c12] at H
            have c12b0 : decide (x7_4 < x4_1) = false:=decide_eq_false c12;clear c12
            replace H:=Option.bind_eq_some_iff.mp H
            obtain ⟨t523,A160,H⟩:=H
            replace H : (if 0 ≤ t523 then (if t523 < (l0_2.length : Int) then (if x3_3.length < 17592186044416 then (spec_TriangleOf.l1 k4 (x3_3 ++ [rd l0_2 t523]) x4_1 (wrap64 (x5_3 + 1)) l0_0 l0_1 l0_2) else (none)) else (none)) else (none)) = some r:=H
            have A16:=Aside0.mk A160;clear A160
            by_cases c17 : 0 ≤ t523
            ·
             rw [if_pos c17] at H
             have c17b0 : decide (0 ≤ t523) = true:=decide_eq_true c17;clear c17
             by_cases c18 : t523 < (l0_2.length : Int)
             ·
              rw [if_pos c18] at H
              have c18b0 : decide (t523 < (l0_2.length : Int)) = true:=decide_eq_true c18;clear c18
              by_cases c19 : x3_3.length < 17592186044416
              ·
               rw [if_pos c19] at H
               have LMc19:=Aside0.mk c19;clear c19
               obtain ⟨y525,hy525⟩ : ∃ y_ : List Int,y_ = (x3_3 ++ [rd l0_2 t523]):=⟨_,rfl⟩
               replace H : (spec_TriangleOf.l1 k4 y525 x4_1 (wrap64 (x5_3 + 1)) l0_0 l0_1 l0_2) = some r:=by first|(rw [hy525];with_reducible exact H)|(have H2_:=(Option.bind_some _ _).symm.trans H;rw [hy525];with_reducible exact H2_)|(have H2_:=(Option.bind_some _ _).symm.trans H;with_reducible exact H2_)|with_reducible exact H|(rw [hy525];exact H)|exact H
               have Ny525:=Aside0.mk hy525;clear hy525
               have H':=Aside0.mk H;clear H
               try go_wp2
               have n0_:=Aside0.mk (Kd.R_drew HO_3.out);have n1_:=Aside0.mk (blk_drew BK518.out);have n2_:=Aside0.mk (below_drew1 HB.out);clear HO_3 BK518 HB;have HO_3:=n0_;have BK518:=n1_;have HB:=n2_;clear n0_ n1_ n2_
               have p524 : 0 ≤ (t523 : Int):=of_decide_eq_true (by first|(with_reducible assumption)|assumption)
               have q524 : t523 < (l0_2.length : Int):=of_decide_eq_true (by first|(with_reducible assumption)|assumption)
               obtain ⟨ad524,e524,hx524_0⟩:=Kd.at_int HR0_2.out t523 p524 q524;have hw524_0:=hx524_0
               cases e524
               replace hx524_0:=(HB.out.cell (World.block_lt_of_cell? w _ hx524_0)).trans hx524_0
               replace p524:=eq_true p524
               replace q524:=eq_true q524
               refine start_ (n:=11) (S:=fun w' => w'.cell? ⟨gb518,0,none⟩ = some (.slice A0_0 l0_0.length c0_0) ∧ w'.cell? ⟨gb518,1,none⟩ = some (.slice A0_1 l0_1.length c0_1) ∧ w'.cell? ⟨gb518,2,none⟩ = some (.slice (some ad524) l0_2.length c0_2) ∧ w'.cell? (ad524.add (t523).toNat) = some (.int .i64 (rd l0_2 t523))) (ds:=[]) #[false,false,false,false,false,false,false,false,false,false,false] (by kernel_rfl) rfl rfl ⟨(blk_cell BK518.out 0).trans rfl,(blk_cell BK518.out 1).trans rfl,(blk_cell BK518.out 2).trans rfl,((HB.out.cell (World.block_lt_of_cell? w _ hw524_0)).trans hw524_0)⟩ (fun hHeld => ?_);refine with_tabW spec_TriangleOf.tab15 spec_TriangleOf.bits15 (fun HT_ HW_ => ?_)
               generalize wr.drew = w20 at HO_3 BK518 HB hx524_0 hHeld ⊢
               refine pure_ (i:=0) (N:=some 36) (v:=?_) (a':=?_) #[true,false,false,false,false,false,false,false,false,false,false] rfl rfl (any_of HT_.out (by kernel_rfl)) (fun _ _ _ h => h) (Or.inl ⟨by rfl,?_⟩) ?_ ?_;rotate_left
               ·
                intro w'
                go_simp
                with_reducible rfl
               rotate_left
               ·
                simp only [Act.put,List.setIfInBounds_toArray,List.set_cons_zero,List.set_cons_succ,i64_w,i32_w]
                rfl
               refine pure_ (i:=1) (N:=some 37) (v:=?_) (a':=?_) #[true,true,false,false,false,false,false,false,false,false,false] rfl rfl (any_of HT_.out (by kernel_rfl)) (fun _ _ _ h => h) (Or.inl ⟨by rfl,?_⟩) ?_ ?_;rotate_left
               ·
                intro w'
                go_simp
                with_reducible rfl
               rotate_left
               ·
                simp only [Act.put,List.setIfInBounds_toArray,List.set_cons_zero,List.set_cons_succ,i64_w,i32_w]
                rfl
               refine pure_ (i:=4) (N:=some 40) (v:=?_) (a':=?_) #[true,true,false,false,true,false,false,false,false,false,false] rfl rfl (any_of HT_.out (by kernel_rfl)) (fun _ _ _ h => h) (Or.inl ⟨by rfl,?_⟩) ?_ ?_;rotate_left
               ·
                intro w'
                go_simp
                with_reducible rfl
               rotate_left
               ·
                simp only [Act.put,List.setIfInBounds_toArray,List.set_cons_zero,List.set_cons_succ,i64_w,i32_w]
                rfl
               refine take_ (i:=2) (N:=some 38) (v:=?_) (a':=?_) #[true,true,true,false,true,false,false,false,false,false,false] rfl rfl (take_ofW HT_.out HW_.out (by kernel_rfl)) (fun _ _ _ h => h) (Or.inl ⟨by rfl,?_⟩) hHeld ?_ ?_;rotate_left
               ·
                rintro w' ⟨s0,s1,s2,s3⟩
                go_simp
                with_reducible rfl
               rotate_left
               ·
                simp only [Act.put,List.setIfInBounds_toArray,List.set_cons_zero,List.set_cons_succ,i64_w,i32_w]
                rfl
               refine take_ (i:=3) (N:=some 39) (v:=?_) (a':=?_) #[true,true,true,true,true,false,false,false,false,false,false] rfl rfl (take_ofW HT_.out HW_.out (by kernel_rfl)) (fun _ _ _ h => h) (Or.inl ⟨by rfl,?_⟩) hHeld ?_ ?_;rotate_left
               ·
                rintro w' ⟨s0,s1,s2,s3⟩
                go_simp
                with_reducible rfl
               rotate_left
               ·
                simp only [Act.put,List.setIfInBounds_toArray,List.set_cons_zero,List.set_cons_succ,i64_w,i32_w]
                rfl
               refine one_ (i:=5) (N:=some 41) #[true,true,true,true,true,true,false,false,false,false,false] rfl rfl (one_of HT_.out (by kernel_rfl)) (by decide) (fun K hK => ?_)
               refine goes_ Try.func35 (by kernel_rfl) rfl #[.agg #[.slice A0_0 l0_0.length c0_0,.slice A0_1 l0_1.length c0_1,.slice (some ad524) l0_2.length c0_2],.string x6_4] (by rfl) rfl rfl (by (try simp only [List.map_toArray,List.map_cons,List.map_nil]);first|done|rfl|(simp only [List.length_drop,List.length_take];rfl)) ?_
               with_reducible refine (spec_l4State.calls k4 _ _ l0_0 _ _ l0_1 _ _ l0_2 x6_4 t523 _ ?side1 ?side2 ?side3 ?side4 ?side5 ?side6 A16.out).mono ?_
               (case side1 => exact cU (Kd.C_below HR0_0.out HB.out))
               (case side2 => exact HC0_0.out)
               (case side3 => exact cU (Kd.C_below HR0_1.out HB.out))
               (case side4 => exact HC0_1.out)
               (case side5 => exact cU (Kd.C_below HR0_2.out HB.out))
               (case side6 => exact HC0_2.out)
               rintro e w21 ⟨rfl,hb⟩
               refine ⟨_,rfl,?_⟩;have n0_:=Aside0.mk (Kd.R_below (rU HO_3.out) hb);have n1_:=Aside0.mk (blk_below (g:=gb518) (o:=.cells #[.slice A0_0 l0_0.length c0_0,.slice A0_1 l0_1.length c0_1,.slice (some ad524) l0_2.length c0_2] 26 (0,0)) (blkU BK518.out) hb);have n2_:=Aside0.mk (below_step (by repeat (first|(with_reducible first|exact HB.out|apply below_alloc|apply pw_below_drewN|apply below_drew1|refine below_set ?_ GE518.out)|exact HB.out)) hb);clear HO_3 BK518 HB;have HO_3:=n0_;have BK518:=n1_;have HB:=n2_;clear n0_ n1_ n2_
               (try clear hb)
               (try clear hb2)
               (try clear hk)
               (try clear hi)
               refine hK.out _ _ ⟨(blk_cell BK518.out 0).trans rfl,(blk_cell BK518.out 1).trans rfl,(blk_cell BK518.out 2).trans rfl,((HB.out.cell (World.block_lt_of_cell? w _ hw524_0)).trans hw524_0)⟩ (fun hHeld => ?_);clear hK K
               refine norm_ (a':=?_) ?_ ?_;rotate_left
               ·
                show Act.put _ (some 41) _ = _
                simp only [Act.put,List.setIfInBounds_toArray,List.set_cons_zero,List.set_cons_succ,i64_w,i32_w]
                rfl
               refine pure_ (i:=6) (N:=some 42) (v:=?_) (a':=?_) #[true,true,true,true,true,true,true,false,false,false,false] rfl rfl (any_of HT_.out (by kernel_rfl)) (fun _ _ _ h => h) (Or.inl ⟨by rfl,?_⟩) ?_ ?_;rotate_left
               ·
                intro w'
                go_simp
                with_reducible rfl
               rotate_left
               ·
                simp only [Act.put,List.setIfInBounds_toArray,List.set_cons_zero,List.set_cons_succ,i64_w,i32_w]
                rfl
               refine take_ (i:=7) (N:=some 43) (v:=?_) (a':=?_) #[true,true,true,true,true,true,true,true,false,false,false] rfl rfl (take_ofW HT_.out HW_.out (by kernel_rfl)) (fun _ _ _ h => h) (Or.inl ⟨by rfl,?_⟩) hHeld ?_ ?_;rotate_left
               ·
                rintro w' ⟨s0,s1,s2,s3⟩
                go_simp
                with_reducible rfl
               rotate_left
               ·
                simp only [Act.put,List.setIfInBounds_toArray,List.set_cons_zero,List.set_cons_succ,i64_w,i32_w]
                rfl
               refine one_ (i:=8) (N:=some 44) #[true,true,true,true,true,true,true,true,true,false,false] rfl rfl (one_of HT_.out (by kernel_rfl)) (by decide) (fun K hK => ?_)
               refine value_ (w1:=?_) (v:=?_) (by rfl) rfl ?_ ?_
               rotate_left 2
               ·
                go_simp
                constructor
                ·
                 rfl
                ·
                 rfl
               refine hK.out _ _ ⟨(blk_cell (blk_alloc BK518.out _) 0).trans rfl,(blk_cell (blk_alloc BK518.out _) 1).trans rfl,(blk_cell (blk_alloc BK518.out _) 2).trans rfl,(World.cell?_alloc_lt _ _ _ (World.block_lt_of_cell? _ _ (((HB.out.cell (World.block_lt_of_cell? w _ hw524_0)).trans hw524_0)))).trans (((HB.out.cell (World.block_lt_of_cell? w _ hw524_0)).trans hw524_0))⟩ (fun hHeld => ?_);clear hK K
               refine norm_ (a':=?_) ?_ ?_;rotate_left
               ·
                show Act.put _ (some 44) _ = _
                simp only [Act.put,List.setIfInBounds_toArray,List.set_cons_zero,List.set_cons_succ,i64_w,i32_w]
                rfl
               refine one_ (i:=9) (N:=some 45) #[true,true,true,true,true,true,true,true,true,true,false] rfl rfl (one_of HT_.out (by kernel_rfl)) (by decide) (fun K hK => ?_)
               refine Kd.R_append_step (Kd.int .i64) (w0:=w) w.heap.size (by rfl) (.tmp 36) (.tmp 44) 24 3 (.int .i64 0) 8 rfl Try.underlying24 info3 rfl (by decide) (by omega) u3 x3_3 (rd l0_2 t523) [.int .i64 (rd l0_2 t523)] (fun _ => True) (fun _ => False) rfl rfl ?aP (fun _ hk => hk.elim) ?aF ?aO ?aB ?aS ?aL ?_
               (case aP => exact rfl)
               (case aB => exact (by repeat (first|(with_reducible first|exact HB.out|apply below_alloc|apply pw_below_drewN|apply below_drew1|refine below_set ?_ GE518.out)|exact HB.out)))
               (case aF => exact (fun _ _ => trivial))
               (case aO => exact (rU HO_3.out))
               (case aS => exact (below_size (by repeat (first|(with_reducible first|exact HB.out|apply below_alloc|apply pw_below_drewN|apply below_drew1|refine below_set ?_ GE518.out)|exact HB.out))))
               (case aL => have:=LMc19.out;omega);intro v526 w22 ho hb hg hat
               rw [← Ny525.out] at ho;have n0_:=Aside0.mk (blk_grown (g:=gb518) (o:=.cells #[.slice A0_0 l0_0.length c0_0,.slice A0_1 l0_1.length c0_1,.slice (some ad524) l0_2.length c0_2] 26 (0,0)) (blkU BK518.out) hg (Kd.R_ne HO_3.out BK518.out (by decide)));have n1_:=Aside0.mk (hb);have n2_:=Aside0.mk (ho);clear BK518 HB HO_3;have BK518:=n0_;have HB:=n1_;have HO527:=n2_;clear n0_ n1_ n2_ ho hb hg hat
               refine hK.out _ _ ⟨(blk_cell BK518.out 0).trans rfl,(blk_cell BK518.out 1).trans rfl,(blk_cell BK518.out 2).trans rfl,((HB.out.cell (World.block_lt_of_cell? w _ hw524_0)).trans hw524_0)⟩ (fun hHeld => ?_);clear hK K
               refine norm_ (a':=?_) ?_ ?_;rotate_left
               ·
                show Act.put _ (some 45) _ = _
                simp only [Act.put,List.setIfInBounds_toArray,List.set_cons_zero,List.set_cons_succ,i64_w,i32_w]
                rfl
               refine pure_ (i:=10) (N:=some 3) (v:=?_) (a':=?_) #[true,true,true,true,true,true,true,true,true,true,true] rfl rfl (any_of HT_.out (by kernel_rfl)) (fun _ _ _ h => h) (Or.inl ⟨by rfl,?_⟩) ?_ ?_;rotate_left
               ·
                intro w'
                go_simp
                with_reducible rfl
               rotate_left
               ·
                simp only [Act.put,List.setIfInBounds_toArray,List.set_cons_zero,List.set_cons_succ,i64_w,i32_w]
                rfl
               refine done_ (done_of HT_.out (by kernel_rfl)) ?_
               try go_wp2
               go_roundg k4
               case measure => have:=HK1.out;have:=HJ4.out;have:=HK3.out;have:=HK4.out;omega
               case rel => exact ⟨(y525),(wrap64 (x5_3 + 1)),(by first|rfl|(simp;done)|(simp [*];done)),H',⟨by have:=HK1.out;have:=HJ4.out;have:=HK3.out;have:=HK4.out;omega⟩,⟨rU HO527.out⟩,⟨blkU BK518.out⟩,⟨by repeat (first|(with_reducible first|exact HB.out|apply below_alloc|apply pw_below_drewN|apply below_drew1|refine below_set ?_ GE518.out)|exact HB.out)⟩⟩
              ·
               rw [if_neg c19] at H
               exact absurd H (by simp)
             ·
              rw [if_neg c18] at H
              exact absurd H (by simp)
            ·
             rw [if_neg c17] at H
             exact absurd H (by simp)
        ·
         rw [if_neg c11] at H
         have c11b0 : decide (x5_3 ≤ x4_1) = false:=decide_eq_false c11;clear c11
         have H':=Aside0.mk H;clear H
         go_wp2
         go_roundg k3
         case measure => have:=HK1.out;have:=HJ4.out;have:=HK3.out;omega
         case rel => exact ⟨(x3_3),(wrap64 (x4_1 + 1)),(by first|rfl|(simp;done)|(simp [*];done)),H',⟨by have:=HK1.out;have:=HJ4.out;have:=HK3.out;omega⟩,⟨rU HO_3.out⟩,⟨blkU BK518.out⟩,⟨by repeat (first|(with_reducible first|exact HB.out|apply below_alloc|apply pw_below_drewN|apply below_drew1|refine below_set ?_ GE518.out)|exact HB.out)⟩⟩
     ·
      replace c10:=Bool.eq_false_iff.mpr c10;subst c10
      have H1 : (some x3_1) = some r:=by rw [if_neg (show ¬ (false = true) by decide)] at H;exact H
      clear H;have H:=H1;clear H1
      obtain rfl:=Option.some.inj H
      go_wp2
      go_ret
      exact ⟨_,by first|rfl|(simp [errW_none,errW_some] <;> rfl)|(simp [*,errW_none,errW_some] <;> rfl),rU HO_3.out,by repeat (first|(with_reducible first|exact HB.out|apply below_alloc|apply pw_below_drewN|apply below_drew1|refine below_set ?_ GE518.out)|exact HB.out)⟩

end Go.Proofs.Ytiplbleghaoehaa.PA
