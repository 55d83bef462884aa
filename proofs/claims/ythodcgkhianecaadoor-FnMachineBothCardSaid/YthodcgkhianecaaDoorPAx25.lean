/- The machine side of functions of this seat, written by the session's program myprint.py: for each Go function a Lean function and the proof that the call answers just it. -/
import Derived.Test.YthodcgkhianecaaDoorPAx0
import Derived.Test.YthodcgkhianecaaDoorUp
import Derived.Test.YthodcgkhianecaaDoorPAx12
namespace Go.Proofs.YthodcgkhianecaaDoor.PA
open Go.RowKit Go.Proofs.YthodcgkhianecaaDoorW.PrintWords Go.Proofs.YthodcgkhianecaaDoorW.PrintLast Go.Proofs.YthodcgkhianecaaDoorW.PrintMore
attribute [local go_sem] max2_int min2_int max_two min_two max_three min_three max_four min_four   -- for this text's walks alone
set_option linter.unusedVariables false
set_option linter.unusedSimpArgs false

/-! ### impl_MachineBoth: function 13 -/
mutual
def impl_MachineBoth.j0 : Nat → Bool → List Int → List Int → List Int → List Int → List Int → List Int → Option (List Int × List Int × List Int × Bool)
 | 0,_,_,_,_,_,_,_ => none
 | k + 1,x27,x451000,x451001,x451002,x452000,x452001,x452002 => if x27 = true then (some (([] : List Int),([] : List Int),([] : List Int),false)) else (impl_MachineBoth.l0 k (x452002.length : Int) (x451002.length : Int) 0 x451000 x451001 x451002 x452000 x452001 x452002 ([] : List Int) ([] : List Int) ([] : List Int))
def impl_MachineBoth.l0 : Nat → Int → Int → Int → List Int → List Int → List Int → List Int → List Int → List Int → List Int → List Int → List Int → Option (List Int × List Int × List Int × Bool)
 | 0,_,_,_,_,_,_,_,_,_,_,_,_ => none
 | k + 1,x7,x35,x36,x451000,x451001,x451002,x452000,x452001,x452002,x456000,x456001,x456002 => if x36 < x35 then (impl_MachineBoth.l1 k x7 x36 x35 x36 (x452002.length : Int) 0 x451000 x451001 x451002 x452000 x452001 x452002 x456000 x456001 x456002) else (some (x456000,x456001,x456002,true))
def impl_MachineBoth.l1 : Nat → Int → Int → Int → Int → Int → Int → List Int → List Int → List Int → List Int → List Int → List Int → List Int → List Int → List Int → Option (List Int × List Int × List Int × Bool)
 | 0,_,_,_,_,_,_,_,_,_,_,_,_,_,_,_ => none
 | k + 1,x7,x8,x35,x36,x41,x42,x451000,x451001,x451002,x452000,x452001,x452002,x456000,x456001,x456002 => if x42 < x41 then (if 0 ≤ x8 then (if x8 < (x451000.length : Int) then (if 0 ≤ x42 then (if x42 < (x452000.length : Int) then (if x456000.length < 17592186044416 then (if x8 < (x451001.length : Int) then (if x42 < (x452001.length : Int) then (if x456001.length < 17592186044416 then (if x8 < (x451002.length : Int) then (if x42 < (x452002.length : Int) then (if x456002.length < 17592186044416 then (impl_MachineBoth.l1 k x7 x8 x35 x36 x41 (wrap64 (x42 + 1)) x451000 x451001 x451002 x452000 x452001 x452002 (x456000 ++ [wrap64 ((wrap64 ((rd x451000 x8) * x7)) + (rd x452000 x42))]) (x456001 ++ [wrap64 ((wrap64 ((rd x451001 x8) * x7)) + (rd x452001 x42))]) (x456002 ++ [wrap64 ((rd x451002 x8) * (rd x452002 x42))])) else (none)) else (none)) else (none)) else (none)) else (none)) else (none)) else (none)) else (none)) else (none)) else (none)) else (none)) else (impl_MachineBoth.l0 k x7 x35 (wrap64 (x36 + 1)) x451000 x451001 x451002 x452000 x452001 x452002 x456000 x456001 x456002)
end
def impl_MachineBoth.f (k : Nat) (l0_0 : List Int) (l0_1 : List Int) (l0_2 : List Int) (l1_0 : List Int) (l1_1 : List Int) (l1_2 : List Int) : Option (List Int × List Int × List Int × Bool):=(impl_isMachine.f k l0_0 l0_1 l0_2).bind fun t453 => (if t453 = true then ((impl_isMachine.f k l1_0 l1_1 l1_2).bind fun t454 => (if t454 = true then (impl_MachineBoth.j0 k (decide ((wrap64 ((l0_2.length : Int) * (l1_2.length : Int))) > 12)) l0_0 l0_1 l0_2 l1_0 l1_1 l1_2) else (impl_MachineBoth.j0 k true l0_0 l0_1 l0_2 l1_0 l1_1 l1_2))) else (impl_MachineBoth.j0 k true l0_0 l0_1 l0_2 l1_0 l1_1 l1_2))
theorem impl_MachineBoth.mono_l : ∀ k,(∀ y0 y1 y2 y3 y4 y5 y6,LeO (impl_MachineBoth.j0 k y0 y1 y2 y3 y4 y5 y6) (impl_MachineBoth.j0 (k + 1) y0 y1 y2 y3 y4 y5 y6)) ∧ (∀ y0 y1 y2 y3 y4 y5 y6 y7 y8 y9 y10 y11,LeO (impl_MachineBoth.l0 k y0 y1 y2 y3 y4 y5 y6 y7 y8 y9 y10 y11) (impl_MachineBoth.l0 (k + 1) y0 y1 y2 y3 y4 y5 y6 y7 y8 y9 y10 y11)) ∧ (∀ y0 y1 y2 y3 y4 y5 y6 y7 y8 y9 y10 y11 y12 y13 y14,LeO (impl_MachineBoth.l1 k y0 y1 y2 y3 y4 y5 y6 y7 y8 y9 y10 y11 y12 y13 y14) (impl_MachineBoth.l1 (k + 1) y0 y1 y2 y3 y4 y5 y6 y7 y8 y9 y10 y11 y12 y13 y14))
 | 0 => ⟨fun _ _ _ _ _ _ _ r h => by simp [impl_MachineBoth.j0] at h,fun _ _ _ _ _ _ _ _ _ _ _ _ r h => by simp [impl_MachineBoth.l0] at h,fun _ _ _ _ _ _ _ _ _ _ _ _ _ _ _ r h => by simp [impl_MachineBoth.l1] at h⟩
 | k + 1 => by
  obtain ⟨ih0,ih1,ih2⟩:=impl_MachineBoth.mono_l k
  refine ⟨?_,?_,?_⟩
  ·
   intro y0 y1 y2 y3 y4 y5 y6
   unfold impl_MachineBoth.j0
   repeat' first
   | (with_reducible exact ih0 _ _ _ _ _ _ _)
   | (with_reducible exact ih1 _ _ _ _ _ _ _ _ _ _ _ _)
   | (with_reducible exact ih2 _ _ _ _ _ _ _ _ _ _ _ _ _ _ _)
   | (with_reducible exact impl_isMachine.mono _ _ _ _)
   | (with_reducible exact LeO.refl _)
   | (with_reducible exact LeO.none _)
   | (with_reducible refine LeO.ite ?_ ?_)
   | (with_reducible refine LeO.bind ?_ (fun _ => ?_))
   | exact ih0 _ _ _ _ _ _ _
   | exact ih1 _ _ _ _ _ _ _ _ _ _ _ _
   | exact ih2 _ _ _ _ _ _ _ _ _ _ _ _ _ _ _
   | exact impl_isMachine.mono _ _ _ _
   | exact LeO.none _
   | refine LeO.ite ?_ ?_
   | refine LeO.bind ?_ (fun _ => ?_)
  ·
   intro y0 y1 y2 y3 y4 y5 y6 y7 y8 y9 y10 y11
   unfold impl_MachineBoth.l0
   repeat' first
   | (with_reducible exact ih0 _ _ _ _ _ _ _)
   | (with_reducible exact ih1 _ _ _ _ _ _ _ _ _ _ _ _)
   | (with_reducible exact ih2 _ _ _ _ _ _ _ _ _ _ _ _ _ _ _)
   | (with_reducible exact impl_isMachine.mono _ _ _ _)
   | (with_reducible exact LeO.refl _)
   | (with_reducible exact LeO.none _)
   | (with_reducible refine LeO.ite ?_ ?_)
   | (with_reducible refine LeO.bind ?_ (fun _ => ?_))
   | exact ih0 _ _ _ _ _ _ _
   | exact ih1 _ _ _ _ _ _ _ _ _ _ _ _
   | exact ih2 _ _ _ _ _ _ _ _ _ _ _ _ _ _ _
   | exact impl_isMachine.mono _ _ _ _
   | exact LeO.none _
   | refine LeO.ite ?_ ?_
   | refine LeO.bind ?_ (fun _ => ?_)
  ·
   intro y0 y1 y2 y3 y4 y5 y6 y7 y8 y9 y10 y11 y12 y13 y14
   unfold impl_MachineBoth.l1
   repeat' first
   | (with_reducible exact ih0 _ _ _ _ _ _ _)
   | (with_reducible exact ih1 _ _ _ _ _ _ _ _ _ _ _ _)
   | (with_reducible exact ih2 _ _ _ _ _ _ _ _ _ _ _ _ _ _ _)
   | (with_reducible exact impl_isMachine.mono _ _ _ _)
   | (with_reducible exact LeO.refl _)
   | (with_reducible exact LeO.none _)
   | (with_reducible refine LeO.ite ?_ ?_)
   | (with_reducible refine LeO.bind ?_ (fun _ => ?_))
   | exact ih0 _ _ _ _ _ _ _
   | exact ih1 _ _ _ _ _ _ _ _ _ _ _ _
   | exact ih2 _ _ _ _ _ _ _ _ _ _ _ _ _ _ _
   | exact impl_isMachine.mono _ _ _ _
   | exact LeO.none _
   | refine LeO.ite ?_ ?_
   | refine LeO.bind ?_ (fun _ => ?_)
theorem impl_MachineBoth.mono : ∀ a0 a1 a2 a3 a4 a5 k,LeO (impl_MachineBoth.f k a0 a1 a2 a3 a4 a5) (impl_MachineBoth.f (k + 1) a0 a1 a2 a3 a4 a5):=by
 intro a0 a1 a2 a3 a4 a5 k
 obtain ⟨ih0,ih1,ih2⟩:=impl_MachineBoth.mono_l k
 unfold impl_MachineBoth.f
 repeat' first
   | (with_reducible exact ih0 _ _ _ _ _ _ _)
   | (with_reducible exact ih1 _ _ _ _ _ _ _ _ _ _ _ _)
   | (with_reducible exact ih2 _ _ _ _ _ _ _ _ _ _ _ _ _ _ _)
   | (with_reducible exact impl_isMachine.mono _ _ _ _)
   | (with_reducible exact LeO.refl _)
   | (with_reducible exact LeO.none _)
   | (with_reducible refine LeO.ite ?_ ?_)
   | (with_reducible refine LeO.bind ?_ (fun _ => ?_))
   | exact ih0 _ _ _ _ _ _ _
   | exact ih1 _ _ _ _ _ _ _ _ _ _ _ _
   | exact ih2 _ _ _ _ _ _ _ _ _ _ _ _ _ _ _
   | exact impl_isMachine.mono _ _ _ _
   | exact LeO.none _
   | refine LeO.ite ?_ ?_
   | refine LeO.bind ?_ (fun _ => ?_)
def impl_MachineBoth.T11 : Bool × List (List Nat × List Nat):=(true,[([],[]),([0],[0]),([],[]),([2],[2]),([],[]),([3,4],[3,4]),([5],[5]),([],[]),([6,7],[6,7]),([],[]),([9],[9]),([],[]),([10,11],[10,11]),([12],[12]),([8,13],[8,13]),([14],[14]),([1,15],[1,15]),([0,1,2,3,4,5,6,7,8,9,10,11,12,13,14,15,16],[]),([17,16,16,0,1,2,3,4,5,6,7,8,9,10,11,12,13,14,15,16],[16,17])])
def impl_MachineBoth.B11 : List Nat:=[0,1,0,4,0,28,60,0,252,0,512,0,3584,7680,16380,32764,65535,131071,262143]
theorem impl_MachineBoth.tab11 : rtab .any (opsOf Tryd.f13 11) = impl_MachineBoth.T11:=by kernel_rfl
theorem impl_MachineBoth.bits11 : waitsOk impl_MachineBoth.T11.2 impl_MachineBoth.B11 = true:=by kernel_rfl
def impl_MachineBoth.T12 : Bool × List (List Nat × List Nat):=(true,[([],[]),([0],[0]),([],[]),([2],[2]),([],[]),([3,4],[3,4]),([5],[5]),([],[]),([6,7],[6,7]),([],[]),([9],[9]),([],[]),([10,11],[10,11]),([12],[12]),([8,13],[8,13]),([14],[14]),([1,15],[1,15]),([0,1,2,3,4,5,6,7,8,9,10,11,12,13,14,15,16],[]),([17,16,16,0,1,2,3,4,5,6,7,8,9,10,11,12,13,14,15,16],[16,17])])
def impl_MachineBoth.B12 : List Nat:=[0,1,0,4,0,28,60,0,252,0,512,0,3584,7680,16380,32764,65535,131071,262143]
theorem impl_MachineBoth.tab12 : rtab .any (opsOf Tryd.f13 12) = impl_MachineBoth.T12:=by kernel_rfl
theorem impl_MachineBoth.bits12 : waitsOk impl_MachineBoth.T12.2 impl_MachineBoth.B12 = true:=by kernel_rfl
def impl_MachineBoth.T13 : Bool × List (List Nat × List Nat):=(true,[([],[]),([0],[0]),([],[]),([2],[2]),([],[]),([3,4],[3,4]),([5],[5]),([],[]),([7],[7]),([],[]),([8,9],[8,9]),([10],[10]),([6,11],[6,11]),([12],[12]),([1,13],[1,13]),([0,1,2,3,4,5,6,7,8,9,10,11,12,13,14],[]),([15,14,14,0,1,2,3,4,5,6,7,8,9,10,11,12,13,14],[14,15])])
def impl_MachineBoth.B13 : List Nat:=[0,1,0,4,0,28,60,0,128,0,896,1920,4092,8188,16383,32767,65535]
theorem impl_MachineBoth.tab13 : rtab .any (opsOf Tryd.f13 13) = impl_MachineBoth.T13:=by kernel_rfl
theorem impl_MachineBoth.bits13 : waitsOk impl_MachineBoth.T13.2 impl_MachineBoth.B13 = true:=by kernel_rfl
set_option maxHeartbeats 8000000 in
set_option maxRecDepth 100000 in
theorem impl_MachineBoth.calls (k : Nat) (A0_0 : Option Addr) (c0_0 : Nat) (l0_0 : List Int) (A0_1 : Option Addr) (c0_1 : Nat) (l0_1 : List Int) (A0_2 : Option Addr) (c0_2 : Nat) (l0_2 : List Int) (A1_0 : Option Addr) (c1_0 : Nat) (l1_0 : List Int) (A1_1 : Option Addr) (c1_1 : Nat) (l1_1 : List Int) (A1_2 : Option Addr) (c1_2 : Nat) (l1_2 : List Int) (r1 : List Int) (r2 : List Int) (r3 : List Int) (r4 : Bool) (w : World) (hr0_0 : Kd.C (Kd.int .i64) w A0_0 l0_0.length l0_0) (hc0_0 : l0_0.length ≤ c0_0) (hr0_1 : Kd.C (Kd.int .i64) w A0_1 l0_1.length l0_1) (hc0_1 : l0_1.length ≤ c0_1) (hr0_2 : Kd.C (Kd.int .i64) w A0_2 l0_2.length l0_2) (hc0_2 : l0_2.length ≤ c0_2) (hr1_0 : Kd.C (Kd.int .i64) w A1_0 l1_0.length l1_0) (hc1_0 : l1_0.length ≤ c1_0) (hr1_1 : Kd.C (Kd.int .i64) w A1_1 l1_1.length l1_1) (hc1_1 : l1_1.length ≤ c1_1) (hr1_2 : Kd.C (Kd.int .i64) w A1_2 l1_2.length l1_2) (hc1_2 : l1_2.length ≤ c1_2) (h : impl_MachineBoth.f k l0_0 l0_1 l0_2 l1_0 l1_1 l1_2 = some (r1,r2,r3,r4)) :
  Calls Tryd.prog 13 #[.agg #[.slice A0_0 l0_0.length c0_0,.slice A0_1 l0_1.length c0_1,.slice A0_2 l0_2.length c0_2],.agg #[.slice A1_0 l1_0.length c1_0,.slice A1_1 l1_1.length c1_1,.slice A1_2 l1_2.length c1_2]] w fun e w' => ∃ v0_ v1_ v2_ : Value,e = .returned (.tuple #[.agg #[v0_,v1_,v2_],.bool r4]) ∧ Kd.R (Kd.int .i64) 3 w' w.heap.size (fun k_ => some k_ ≠ (v1_ : Value).ownBlock ∧ some k_ ≠ (v2_ : Value).ownBlock) v0_ r1 ∧ Kd.R (Kd.int .i64) 3 w' w.heap.size (fun k_ => some k_ ≠ (v0_ : Value).ownBlock ∧ some k_ ≠ (v2_ : Value).ownBlock) v1_ r2 ∧ Kd.R (Kd.int .i64) 3 w' w.heap.size (fun k_ => some k_ ≠ (v0_ : Value).ownBlock ∧ some k_ ≠ (v1_ : Value).ownBlock) v2_ r3 ∧ Below w.heap.size w w':=by
 have hu25:=Tryd.underlying25
 have HR0_0:=Aside0.mk hr0_0
 have HC0_0:=Aside0.mk hc0_0;clear hr0_0 hc0_0
 have HR0_1:=Aside0.mk hr0_1
 have HC0_1:=Aside0.mk hc0_1;clear hr0_1 hc0_1
 have HR0_2:=Aside0.mk hr0_2
 have HC0_2:=Aside0.mk hc0_2;clear hr0_2 hc0_2
 have HR1_0:=Aside0.mk hr1_0
 have HC1_0:=Aside0.mk hc1_0;clear hr1_0 hc1_0
 have HR1_1:=Aside0.mk hr1_1
 have HC1_1:=Aside0.mk hc1_1;clear hr1_1 hc1_1
 have HR1_2:=Aside0.mk hr1_2
 have HC1_2:=Aside0.mk hc1_2;clear hr1_2 hc1_2;have HB:=Aside0.mk (Below.refl w.heap.size w)
 have H : ((impl_isMachine.f k l0_0 l0_1 l0_2).bind fun t453 => (if t453 = true then ((impl_isMachine.f k l1_0 l1_1 l1_2).bind fun t454 => (if t454 = true then (impl_MachineBoth.j0 k (decide ((wrap64 ((l0_2.length : Int) * (l1_2.length : Int))) > 12)) l0_0 l0_1 l0_2 l1_0 l1_1 l1_2) else (impl_MachineBoth.j0 k true l0_0 l0_1 l0_2 l1_0 l1_1 l1_2))) else (impl_MachineBoth.j0 k true l0_0 l0_1 l0_2 l1_0 l1_1 l1_2))) = some (r1,r2,r3,r4):=h;clear h
 have HC3:=Aside0.mk H;clear H
 go_enter Tryd.func13,Tryd.ntmps13
 go_upto_region 1 with (first|((with_reducible refine gate_dst (N:=2) rfl ?_);(try (refine gate_guard (by rfl) ?_;dsimp only));refine box_event ?hg (N:=2) ?hd (cs:=#[.slice A0_0 l0_0.length c0_0,.slice A0_1 l0_1.length c0_1,.slice A0_2 l0_2.length c0_2]) (t:=25) ?hr ?_;(case hd => rfl);(case hg => rfl);(case hr => first|(go_simp;done)|(go_simp;rfl));intro gb450 hg w4 hbox hb;have n0_:=Aside0.mk (below_step (belU HB.out) hb);have n1_:=Aside0.mk (hbox);have n2_:=Aside0.mk ((by rw [hg];exact (below_size (belU HB.out)) : w.heap.size ≤ gb450));have n3_:=Aside0.mk ((by rw [hg];exact (below_size (belU HB.out)) : w.heap.size ≤ gb450));clear HB;have HB:=n0_;have BK450:=n1_;have GW450:=n2_;have GE450:=n3_;clear n0_ n1_ n2_ n3_ hb hbox hg)|((with_reducible refine gate_dst (N:=3) rfl ?_);(try (refine gate_guard (by rfl) ?_;dsimp only));refine box_event ?hg (N:=3) ?hd (cs:=#[.slice A1_0 l1_0.length c1_0,.slice A1_1 l1_1.length c1_1,.slice A1_2 l1_2.length c1_2]) (t:=25) ?hr ?_;(case hd => rfl);(case hg => rfl);(case hr => first|(go_simp;done)|(go_simp;rfl));intro gb451 hg w5 hbox hb;have n0_:=Aside0.mk (blk_below (g:=gb450) (o:=.cells #[.slice A0_0 l0_0.length c0_0,.slice A0_1 l0_1.length c0_1,.slice A0_2 l0_2.length c0_2] 25 (0,0)) (blkU BK450.out) hb);have n1_:=Aside0.mk (below_step (by repeat (first|(with_reducible first|exact HB.out|apply below_alloc|apply pw_below_drewN|apply below_drew1|refine below_set ?_ GE450.out)|exact HB.out)) hb);have n2_:=Aside0.mk (hbox);have n3_:=Aside0.mk ((by rw [hg];exact (below_size (by repeat (first|(with_reducible first|exact HB.out|apply below_alloc|apply pw_below_drewN|apply below_drew1|refine below_set ?_ GE450.out)|exact HB.out))) : w.heap.size ≤ gb451));have n4_:=Aside0.mk ((by rw [hg];exact (below_size (by repeat (first|(with_reducible first|exact HB.out|apply below_alloc|apply pw_below_drewN|apply below_drew1|refine below_set ?_ GE450.out)|exact HB.out))) : w.heap.size ≤ gb451));have n5_:=Aside0.mk ((by rw [hg];exact Nat.ne_of_lt (blk_lt (g:=gb450) (o:=.cells #[.slice A0_0 l0_0.length c0_0,.slice A0_1 l0_1.length c0_1,.slice A0_2 l0_2.length c0_2] 25 (0,0)) (blkU BK450.out)) : gb450 ≠ gb451));have n6_:=Aside0.mk ((by rw [hg];exact Nat.ne_of_gt (blk_lt (g:=gb450) (o:=.cells #[.slice A0_0 l0_0.length c0_0,.slice A0_1 l0_1.length c0_1,.slice A0_2 l0_2.length c0_2] 25 (0,0)) (blkU BK450.out)) : gb451 ≠ gb450));clear BK450 HB;have BK450:=n0_;have HB:=n1_;have BK451:=n2_;have GW451:=n3_;have GE451:=n4_;have NB450_451:=n5_;have NB451_450:=n6_;clear n0_ n1_ n2_ n3_ n4_ n5_ n6_ hb hbox hg)|((with_reducible refine gate_dst (N:=4) rfl ?_);(try (refine gate_guard (by rfl) ?_;dsimp only));refine box_event ?hg (N:=4) ?hd (cs:=#[.slice none 0 0,.slice none 0 0,.slice none 0 0]) (t:=25) ?hr ?_;(case hd => rfl);(case hg => rfl);(case hr => first|(go_simp;done)|(go_simp;rfl));intro gb452 hg w6 hbox hb;have n0_:=Aside0.mk (blk_below (g:=gb450) (o:=.cells #[.slice A0_0 l0_0.length c0_0,.slice A0_1 l0_1.length c0_1,.slice A0_2 l0_2.length c0_2] 25 (0,0)) (blkU BK450.out) hb);have n1_:=Aside0.mk (blk_below (g:=gb451) (o:=.cells #[.slice A1_0 l1_0.length c1_0,.slice A1_1 l1_1.length c1_1,.slice A1_2 l1_2.length c1_2] 25 (0,0)) (blkU BK451.out) hb);have n2_:=Aside0.mk (below_step (by repeat (first|(with_reducible first|exact HB.out|apply below_alloc|apply pw_below_drewN|apply below_drew1|refine below_set ?_ GE450.out|refine below_set ?_ GE451.out)|exact HB.out)) hb);have n3_:=Aside0.mk (hbox);have n4_:=Aside0.mk ((by rw [hg];exact (below_size (by repeat (first|(with_reducible first|exact HB.out|apply below_alloc|apply pw_below_drewN|apply below_drew1|refine below_set ?_ GE450.out|refine below_set ?_ GE451.out)|exact HB.out))) : w.heap.size ≤ gb452));have n5_:=Aside0.mk ((by rw [hg];exact (below_size (by repeat (first|(with_reducible first|exact HB.out|apply below_alloc|apply pw_below_drewN|apply below_drew1|refine below_set ?_ GE450.out|refine below_set ?_ GE451.out)|exact HB.out))) : w.heap.size ≤ gb452));have n6_:=Aside0.mk ((by rw [hg];exact Nat.ne_of_lt (blk_lt (g:=gb450) (o:=.cells #[.slice A0_0 l0_0.length c0_0,.slice A0_1 l0_1.length c0_1,.slice A0_2 l0_2.length c0_2] 25 (0,0)) (blkU BK450.out)) : gb450 ≠ gb452));have n7_:=Aside0.mk ((by rw [hg];exact Nat.ne_of_gt (blk_lt (g:=gb450) (o:=.cells #[.slice A0_0 l0_0.length c0_0,.slice A0_1 l0_1.length c0_1,.slice A0_2 l0_2.length c0_2] 25 (0,0)) (blkU BK450.out)) : gb452 ≠ gb450));have n8_:=Aside0.mk ((by rw [hg];exact Nat.ne_of_lt (blk_lt (g:=gb451) (o:=.cells #[.slice A1_0 l1_0.length c1_0,.slice A1_1 l1_1.length c1_1,.slice A1_2 l1_2.length c1_2] 25 (0,0)) (blkU BK451.out)) : gb451 ≠ gb452));have n9_:=Aside0.mk ((by rw [hg];exact Nat.ne_of_gt (blk_lt (g:=gb451) (o:=.cells #[.slice A1_0 l1_0.length c1_0,.slice A1_1 l1_1.length c1_1,.slice A1_2 l1_2.length c1_2] 25 (0,0)) (blkU BK451.out)) : gb452 ≠ gb451));clear BK450 BK451 HB;have BK450:=n0_;have BK451:=n1_;have HB:=n2_;have BK452:=n3_;have GW452:=n4_;have GE452:=n5_;have NB450_452:=n6_;have NB452_450:=n7_;have NB451_452:=n8_;have NB452_451:=n9_;clear n0_ n1_ n2_ n3_ n4_ n5_ n6_ n7_ n8_ n9_ hb hbox hg))
 (try simp only [Act.put,List.setIfInBounds_toArray,List.set_cons_zero,List.set_cons_succ])
 go_cut [27] (fun v27 wc => ∃ (kq : Nat) (x27_2 : Bool),v27 = .bool x27_2 ∧ Aside0 (impl_MachineBoth.j0 kq x27_2 l0_0 l0_1 l0_2 l1_0 l1_1 l1_2 = some (r1,r2,r3,r4)) ∧ Aside0 (kq ≤ k) ∧ Aside0 (wc.heap[gb450]? = some (.cells #[(.slice A0_0 l0_0.length c0_0),(.slice A0_1 l0_1.length c0_1),(.slice A0_2 l0_2.length c0_2)] 25 (0,0))) ∧ Aside0 (wc.heap[gb451]? = some (.cells #[(.slice A1_0 l1_0.length c1_0),(.slice A1_1 l1_1.length c1_1),(.slice A1_2 l1_2.length c1_2)] 25 (0,0))) ∧ Aside0 (wc.heap[gb452]? = some (.cells #[(.slice none 0 0),(.slice none 0 0),(.slice none 0 0)] 25 (0,0))) ∧ Aside0 (Below w.heap.size w wc))
 case first =>
  have H:=HC3.out;clear HC3
  replace H:=Option.bind_eq_some_iff.mp H
  obtain ⟨t453,A70,H⟩:=H
  replace H : (if t453 = true then ((impl_isMachine.f k l1_0 l1_1 l1_2).bind fun t454 => (if t454 = true then (impl_MachineBoth.j0 k (decide ((wrap64 ((l0_2.length : Int) * (l1_2.length : Int))) > 12)) l0_0 l0_1 l0_2 l1_0 l1_1 l1_2) else (impl_MachineBoth.j0 k true l0_0 l0_1 l0_2 l1_0 l1_1 l1_2))) else (impl_MachineBoth.j0 k true l0_0 l0_1 l0_2 l1_0 l1_1 l1_2)) = some (r1,r2,r3,r4):=H
  have A7:=Aside0.mk A70;clear A70
  by_cases c8 : t453 = true
  ·
   subst c8
   have H1 : ((impl_isMachine.f k l1_0 l1_1 l1_2).bind fun t454 => (if t454 = true then (impl_MachineBoth.j0 k (decide ((wrap64 ((l0_2.length : Int) * (l1_2.length : Int))) > 12)) l0_0 l0_1 l0_2 l1_0 l1_1 l1_2) else (impl_MachineBoth.j0 k true l0_0 l0_1 l0_2 l1_0 l1_1 l1_2))) = some (r1,r2,r3,r4):=by rw [if_pos rfl] at H;exact H
   clear H;have H:=H1;clear H1
   replace H:=Option.bind_eq_some_iff.mp H
   obtain ⟨t454,A90,H⟩:=H
   replace H : (if t454 = true then (impl_MachineBoth.j0 k (decide ((wrap64 ((l0_2.length : Int) * (l1_2.length : Int))) > 12)) l0_0 l0_1 l0_2 l1_0 l1_1 l1_2) else (impl_MachineBoth.j0 k true l0_0 l0_1 l0_2 l1_0 l1_1 l1_2)) = some (r1,r2,r3,r4):=H
   have A9:=Aside0.mk A90;clear A90
   by_cases c10 : t454 = true
   ·
    subst c10
    have H1 : (impl_MachineBoth.j0 k (decide ((wrap64 ((l0_2.length : Int) * (l1_2.length : Int))) > 12)) l0_0 l0_1 l0_2 l1_0 l1_1 l1_2) = some (r1,r2,r3,r4):=by rw [if_pos rfl] at H;exact H
    clear H;have H:=H1;clear H1
    have H':=Aside0.mk H;clear H;have hnb11:=NB450_451.out;have hnc11:=NB451_450.out;have hnb12:=NB450_452.out;have hnc12:=NB452_450.out
    have hcz13_0 : w6.cell? ⟨gb450,0,none⟩ = some (.slice A0_0 l0_0.length c0_0):=(blk_cell BK450.out 0).trans rfl
    have hcz13_1 : w6.cell? ⟨gb450,1,none⟩ = some (.slice A0_1 l0_1.length c0_1):=(blk_cell BK450.out 1).trans rfl
    have hcz13_2 : w6.cell? ⟨gb450,2,none⟩ = some (.slice A0_2 l0_2.length c0_2):=(blk_cell BK450.out 2).trans rfl
    have hfz13_0:=blk_frozen BK450.out 0
    have hfz13_1:=blk_frozen BK450.out 1
    have hfz13_2:=blk_frozen BK450.out 2
    go_wp2_with (first|((with_reducible refine gate_callee (f:=22) rfl ?_);refine goesL_ (some 11) rfl rfl Tryd.func22 (by kernel_rfl) rfl #[.agg #[.slice A0_0 l0_0.length c0_0,.slice A0_1 l0_1.length c0_1,.slice A0_2 l0_2.length c0_2]] rfl (by (try simp only [List.map_toArray,List.map_cons,List.map_nil]);first|done|rfl|(simp only [List.length_drop,List.length_take];rfl)) ?_;(with_reducible refine (impl_isMachine.calls k _ _ l0_0 _ _ l0_1 _ _ l0_2 true _ ?side1 ?side2 ?side3 ?side4 ?side5 ?side6 A7.out).mono ?_);(case side1 => exact cU (Kd.C_below HR0_0.out HB.out));(case side2 => exact HC0_0.out);(case side3 => exact cU (Kd.C_below HR0_1.out HB.out));(case side4 => exact HC0_1.out);(case side5 => exact cU (Kd.C_below HR0_2.out HB.out));(case side6 => exact HC0_2.out);rintro e w14 ⟨rfl,hb⟩;refine ⟨_,rfl,?_⟩;have n0_:=Aside0.mk (blk_below (g:=gb450) (o:=.cells #[.slice A0_0 l0_0.length c0_0,.slice A0_1 l0_1.length c0_1,.slice A0_2 l0_2.length c0_2] 25 (0,0)) (blkU BK450.out) hb);have n1_:=Aside0.mk (blk_below (g:=gb451) (o:=.cells #[.slice A1_0 l1_0.length c1_0,.slice A1_1 l1_1.length c1_1,.slice A1_2 l1_2.length c1_2] 25 (0,0)) (blkU BK451.out) hb);have n2_:=Aside0.mk (blk_below (g:=gb452) (o:=.cells #[.slice none 0 0,.slice none 0 0,.slice none 0 0] 25 (0,0)) (blkU BK452.out) hb);have n3_:=Aside0.mk (below_step (by repeat (first|(with_reducible first|exact HB.out|apply below_alloc|apply pw_below_drewN|apply below_drew1|refine below_set ?_ GE450.out|refine below_set ?_ GE451.out|refine below_set ?_ GE452.out)|exact HB.out)) hb);clear BK450 BK451 BK452 HB;have BK450:=n0_;have BK451:=n1_;have BK452:=n2_;have HB:=n3_;clear n0_ n1_ n2_ n3_;(try clear hb);(try clear hb2);(try clear hk);(try clear hi);have hnb15:=NB451_452.out;have hnc15:=NB452_451.out;have hcz16_0 : w14.cell? ⟨gb451,0,none⟩ = some (.slice A1_0 l1_0.length c1_0):=(blk_cell BK451.out 0).trans rfl;have hcz16_1 : w14.cell? ⟨gb451,1,none⟩ = some (.slice A1_1 l1_1.length c1_1):=(blk_cell BK451.out 1).trans rfl;have hcz16_2 : w14.cell? ⟨gb451,2,none⟩ = some (.slice A1_2 l1_2.length c1_2):=(blk_cell BK451.out 2).trans rfl;have hfz16_0:=blk_frozen BK451.out 0;have hfz16_1:=blk_frozen BK451.out 1;have hfz16_2:=blk_frozen BK451.out 2)|(go_at_call 22;(with_reducible refine (impl_isMachine.calls k _ _ l1_0 _ _ l1_1 _ _ l1_2 true _ ?side1 ?side2 ?side3 ?side4 ?side5 ?side6 A9.out).mono ?_);(case side1 => exact cU (Kd.C_below HR1_0.out HB.out));(case side2 => exact HC1_0.out);(case side3 => exact cU (Kd.C_below HR1_1.out HB.out));(case side4 => exact HC1_1.out);(case side5 => exact cU (Kd.C_below HR1_2.out HB.out));(case side6 => exact HC1_2.out);rintro e w17 ⟨rfl,hb⟩;have n0_:=Aside0.mk (blk_below (g:=gb450) (o:=.cells #[.slice A0_0 l0_0.length c0_0,.slice A0_1 l0_1.length c0_1,.slice A0_2 l0_2.length c0_2] 25 (0,0)) (blkU BK450.out) hb);have n1_:=Aside0.mk (blk_below (g:=gb451) (o:=.cells #[.slice A1_0 l1_0.length c1_0,.slice A1_1 l1_1.length c1_1,.slice A1_2 l1_2.length c1_2] 25 (0,0)) (blkU BK451.out) hb);have n2_:=Aside0.mk (blk_below (g:=gb452) (o:=.cells #[.slice none 0 0,.slice none 0 0,.slice none 0 0] 25 (0,0)) (blkU BK452.out) hb);have n3_:=Aside0.mk (below_step (by repeat (first|(with_reducible first|exact HB.out|apply below_alloc|apply pw_below_drewN|apply below_drew1|refine below_set ?_ GE450.out|refine below_set ?_ GE451.out|refine below_set ?_ GE452.out)|exact HB.out)) hb);clear BK450 BK451 BK452 HB;have BK450:=n0_;have BK451:=n1_;have BK452:=n2_;have HB:=n3_;clear n0_ n1_ n2_ n3_;(try clear hb);(try clear hb2);(try clear hk);(try clear hi);have hcz18_0 : w17.cell? ⟨gb450,0,none⟩ = some (.slice A0_0 l0_0.length c0_0):=(blk_cell BK450.out 0).trans rfl;have hcz18_1 : w17.cell? ⟨gb450,1,none⟩ = some (.slice A0_1 l0_1.length c0_1):=(blk_cell BK450.out 1).trans rfl;have hcz18_2 : w17.cell? ⟨gb450,2,none⟩ = some (.slice A0_2 l0_2.length c0_2):=(blk_cell BK450.out 2).trans rfl;have hfz18_0:=blk_frozen BK450.out 0;have hfz18_1:=blk_frozen BK450.out 1;have hfz18_2:=blk_frozen BK450.out 2;have hcz19_0 : w17.cell? ⟨gb451,0,none⟩ = some (.slice A1_0 l1_0.length c1_0):=(blk_cell BK451.out 0).trans rfl;have hcz19_1 : w17.cell? ⟨gb451,1,none⟩ = some (.slice A1_1 l1_1.length c1_1):=(blk_cell BK451.out 1).trans rfl;have hcz19_2 : w17.cell? ⟨gb451,2,none⟩ = some (.slice A1_2 l1_2.length c1_2):=(blk_cell BK451.out 2).trans rfl;have hfz19_0:=blk_frozen BK451.out 0;have hfz19_1:=blk_frozen BK451.out 1;have hfz19_2:=blk_frozen BK451.out 2))
    go_meet
    case rel => exact ⟨_,(decide ((wrap64 ((l0_2.length : Int) * (l1_2.length : Int))) > 12)),(by first|rfl|(simp;done)|(simp [*];done)),H',⟨by first|omega|exact Nat.le_refl _⟩,⟨blkU BK450.out⟩,⟨blkU BK451.out⟩,⟨blkU BK452.out⟩,⟨by repeat (first|(with_reducible first|exact HB.out|apply below_alloc|apply pw_below_drewN|apply below_drew1|refine below_set ?_ GE450.out|refine below_set ?_ GE451.out|refine below_set ?_ GE452.out)|exact HB.out)⟩⟩
   ·
    replace c10:=Bool.eq_false_iff.mpr c10;subst c10
    have H1 : (impl_MachineBoth.j0 k true l0_0 l0_1 l0_2 l1_0 l1_1 l1_2) = some (r1,r2,r3,r4):=by rw [if_neg (show ¬ (false = true) by decide)] at H;exact H
    clear H;have H:=H1;clear H1
    have H':=Aside0.mk H;clear H;have hnb20:=NB450_451.out;have hnc20:=NB451_450.out;have hnb21:=NB450_452.out;have hnc21:=NB452_450.out
    have hcz22_0 : w6.cell? ⟨gb450,0,none⟩ = some (.slice A0_0 l0_0.length c0_0):=(blk_cell BK450.out 0).trans rfl
    have hcz22_1 : w6.cell? ⟨gb450,1,none⟩ = some (.slice A0_1 l0_1.length c0_1):=(blk_cell BK450.out 1).trans rfl
    have hcz22_2 : w6.cell? ⟨gb450,2,none⟩ = some (.slice A0_2 l0_2.length c0_2):=(blk_cell BK450.out 2).trans rfl
    have hfz22_0:=blk_frozen BK450.out 0
    have hfz22_1:=blk_frozen BK450.out 1
    have hfz22_2:=blk_frozen BK450.out 2
    go_wp2_with (first|((with_reducible refine gate_callee (f:=22) rfl ?_);refine goesL_ (some 11) rfl rfl Tryd.func22 (by kernel_rfl) rfl #[.agg #[.slice A0_0 l0_0.length c0_0,.slice A0_1 l0_1.length c0_1,.slice A0_2 l0_2.length c0_2]] rfl (by (try simp only [List.map_toArray,List.map_cons,List.map_nil]);first|done|rfl|(simp only [List.length_drop,List.length_take];rfl)) ?_;(with_reducible refine (impl_isMachine.calls k _ _ l0_0 _ _ l0_1 _ _ l0_2 true _ ?side1 ?side2 ?side3 ?side4 ?side5 ?side6 A7.out).mono ?_);(case side1 => exact cU (Kd.C_below HR0_0.out HB.out));(case side2 => exact HC0_0.out);(case side3 => exact cU (Kd.C_below HR0_1.out HB.out));(case side4 => exact HC0_1.out);(case side5 => exact cU (Kd.C_below HR0_2.out HB.out));(case side6 => exact HC0_2.out);rintro e w23 ⟨rfl,hb⟩;refine ⟨_,rfl,?_⟩;have n0_:=Aside0.mk (blk_below (g:=gb450) (o:=.cells #[.slice A0_0 l0_0.length c0_0,.slice A0_1 l0_1.length c0_1,.slice A0_2 l0_2.length c0_2] 25 (0,0)) (blkU BK450.out) hb);have n1_:=Aside0.mk (blk_below (g:=gb451) (o:=.cells #[.slice A1_0 l1_0.length c1_0,.slice A1_1 l1_1.length c1_1,.slice A1_2 l1_2.length c1_2] 25 (0,0)) (blkU BK451.out) hb);have n2_:=Aside0.mk (blk_below (g:=gb452) (o:=.cells #[.slice none 0 0,.slice none 0 0,.slice none 0 0] 25 (0,0)) (blkU BK452.out) hb);have n3_:=Aside0.mk (below_step (by repeat (first|(with_reducible first|exact HB.out|apply below_alloc|apply pw_below_drewN|apply below_drew1|refine below_set ?_ GE450.out|refine below_set ?_ GE451.out|refine below_set ?_ GE452.out)|exact HB.out)) hb);clear BK450 BK451 BK452 HB;have BK450:=n0_;have BK451:=n1_;have BK452:=n2_;have HB:=n3_;clear n0_ n1_ n2_ n3_;(try clear hb);(try clear hb2);(try clear hk);(try clear hi);have hnb24:=NB451_452.out;have hnc24:=NB452_451.out;have hcz25_0 : w23.cell? ⟨gb451,0,none⟩ = some (.slice A1_0 l1_0.length c1_0):=(blk_cell BK451.out 0).trans rfl;have hcz25_1 : w23.cell? ⟨gb451,1,none⟩ = some (.slice A1_1 l1_1.length c1_1):=(blk_cell BK451.out 1).trans rfl;have hcz25_2 : w23.cell? ⟨gb451,2,none⟩ = some (.slice A1_2 l1_2.length c1_2):=(blk_cell BK451.out 2).trans rfl;have hfz25_0:=blk_frozen BK451.out 0;have hfz25_1:=blk_frozen BK451.out 1;have hfz25_2:=blk_frozen BK451.out 2)|(go_at_call 22;(with_reducible refine (impl_isMachine.calls k _ _ l1_0 _ _ l1_1 _ _ l1_2 false _ ?side1 ?side2 ?side3 ?side4 ?side5 ?side6 A9.out).mono ?_);(case side1 => exact cU (Kd.C_below HR1_0.out HB.out));(case side2 => exact HC1_0.out);(case side3 => exact cU (Kd.C_below HR1_1.out HB.out));(case side4 => exact HC1_1.out);(case side5 => exact cU (Kd.C_below HR1_2.out HB.out));(case side6 => exact HC1_2.out);rintro e w26 ⟨rfl,hb⟩;have n0_:=Aside0.mk (blk_below (g:=gb450) (o:=.cells #[.slice A0_0 l0_0.length c0_0,.slice A0_1 l0_1.length c0_1,.slice A0_2 l0_2.length c0_2] 25 (0,0)) (blkU BK450.out) hb);have n1_:=Aside0.mk (blk_below (g:=gb451) (o:=.cells #[.slice A1_0 l1_0.length c1_0,.slice A1_1 l1_1.length c1_1,.slice A1_2 l1_2.length c1_2] 25 (0,0)) (blkU BK451.out) hb);have n2_:=Aside0.mk (blk_below (g:=gb452) (o:=.cells #[.slice none 0 0,.slice none 0 0,.slice none 0 0] 25 (0,0)) (blkU BK452.out) hb);have n3_:=Aside0.mk (below_step (by repeat (first|(with_reducible first|exact HB.out|apply below_alloc|apply pw_below_drewN|apply below_drew1|refine below_set ?_ GE450.out|refine below_set ?_ GE451.out|refine below_set ?_ GE452.out)|exact HB.out)) hb);clear BK450 BK451 BK452 HB;have BK450:=n0_;have BK451:=n1_;have BK452:=n2_;have HB:=n3_;clear n0_ n1_ n2_ n3_;(try clear hb);(try clear hb2);(try clear hk);(try clear hi)))
    go_meet
    case rel => exact ⟨_,(true),(by first|rfl|(simp;done)|(simp [*];done)),H',⟨by first|omega|exact Nat.le_refl _⟩,⟨blkU BK450.out⟩,⟨blkU BK451.out⟩,⟨blkU BK452.out⟩,⟨by repeat (first|(with_reducible first|exact HB.out|apply below_alloc|apply pw_below_drewN|apply below_drew1|refine below_set ?_ GE450.out|refine below_set ?_ GE451.out|refine below_set ?_ GE452.out)|exact HB.out)⟩⟩
  ·
   replace c8:=Bool.eq_false_iff.mpr c8;subst c8
   have H1 : (impl_MachineBoth.j0 k true l0_0 l0_1 l0_2 l1_0 l1_1 l1_2) = some (r1,r2,r3,r4):=by rw [if_neg (show ¬ (false = true) by decide)] at H;exact H
   clear H;have H:=H1;clear H1
   have H':=Aside0.mk H;clear H;have hnb27:=NB450_451.out;have hnc27:=NB451_450.out;have hnb28:=NB450_452.out;have hnc28:=NB452_450.out
   have hcz29_0 : w6.cell? ⟨gb450,0,none⟩ = some (.slice A0_0 l0_0.length c0_0):=(blk_cell BK450.out 0).trans rfl
   have hcz29_1 : w6.cell? ⟨gb450,1,none⟩ = some (.slice A0_1 l0_1.length c0_1):=(blk_cell BK450.out 1).trans rfl
   have hcz29_2 : w6.cell? ⟨gb450,2,none⟩ = some (.slice A0_2 l0_2.length c0_2):=(blk_cell BK450.out 2).trans rfl
   have hfz29_0:=blk_frozen BK450.out 0
   have hfz29_1:=blk_frozen BK450.out 1
   have hfz29_2:=blk_frozen BK450.out 2
   go_wp2_with (first|((with_reducible refine gate_callee (f:=22) rfl ?_);refine goesL_ (some 11) rfl rfl Tryd.func22 (by kernel_rfl) rfl #[.agg #[.slice A0_0 l0_0.length c0_0,.slice A0_1 l0_1.length c0_1,.slice A0_2 l0_2.length c0_2]] rfl (by (try simp only [List.map_toArray,List.map_cons,List.map_nil]);first|done|rfl|(simp only [List.length_drop,List.length_take];rfl)) ?_;(with_reducible refine (impl_isMachine.calls k _ _ l0_0 _ _ l0_1 _ _ l0_2 false _ ?side1 ?side2 ?side3 ?side4 ?side5 ?side6 A7.out).mono ?_);(case side1 => exact cU (Kd.C_below HR0_0.out HB.out));(case side2 => exact HC0_0.out);(case side3 => exact cU (Kd.C_below HR0_1.out HB.out));(case side4 => exact HC0_1.out);(case side5 => exact cU (Kd.C_below HR0_2.out HB.out));(case side6 => exact HC0_2.out);rintro e w30 ⟨rfl,hb⟩;refine ⟨_,rfl,?_⟩;have n0_:=Aside0.mk (blk_below (g:=gb450) (o:=.cells #[.slice A0_0 l0_0.length c0_0,.slice A0_1 l0_1.length c0_1,.slice A0_2 l0_2.length c0_2] 25 (0,0)) (blkU BK450.out) hb);have n1_:=Aside0.mk (blk_below (g:=gb451) (o:=.cells #[.slice A1_0 l1_0.length c1_0,.slice A1_1 l1_1.length c1_1,.slice A1_2 l1_2.length c1_2] 25 (0,0)) (blkU BK451.out) hb);have n2_:=Aside0.mk (blk_below (g:=gb452) (o:=.cells #[.slice none 0 0,.slice none 0 0,.slice none 0 0] 25 (0,0)) (blkU BK452.out) hb);have n3_:=Aside0.mk (below_step (by repeat (first|(with_reducible first|exact HB.out|apply below_alloc|apply pw_below_drewN|apply below_drew1|refine below_set ?_ GE450.out|refine below_set ?_ GE451.out|refine below_set ?_ GE452.out)|exact HB.out)) hb);clear BK450 BK451 BK452 HB;have BK450:=n0_;have BK451:=n1_;have BK452:=n2_;have HB:=n3_;clear n0_ n1_ n2_ n3_;(try clear hb);(try clear hb2);(try clear hk);(try clear hi)))
   go_meet
   case rel => exact ⟨_,(true),(by first|rfl|(simp;done)|(simp [*];done)),H',⟨by first|omega|exact Nat.le_refl _⟩,⟨blkU BK450.out⟩,⟨blkU BK451.out⟩,⟨blkU BK452.out⟩,⟨by repeat (first|(with_reducible first|exact HB.out|apply below_alloc|apply pw_below_drewN|apply below_drew1|refine below_set ?_ GE450.out|refine below_set ?_ GE451.out|refine below_set ?_ GE452.out)|exact HB.out)⟩⟩
 case rest =>
  clear HC3
  try clear c1
  try clear c2
  try clear p2
  try clear p6
  try clear c8
  try clear c10
  try clear c11
  try clear c12
  try clear c13
  try clear c15
  try clear c20
  try clear c21
  try clear c22
  try clear c24
  try clear c27
  try clear c28
  try clear hcz13_0
  try clear hcz13_1
  try clear hcz13_2
  try clear hcz16_0
  try clear hcz16_1
  try clear hcz16_2
  try clear hcz18_0
  try clear hcz18_1
  try clear hcz18_2
  try clear hcz19_0
  try clear hcz19_1
  try clear hcz19_2
  try clear hcz22_0
  try clear hcz22_1
  try clear hcz22_2
  try clear hcz25_0
  try clear hcz25_1
  try clear hcz25_2
  try clear hcz29_0
  try clear hcz29_1
  try clear hcz29_2
  try clear hfz13_0
  try clear hfz13_1
  try clear hfz13_2
  try clear hfz16_0
  try clear hfz16_1
  try clear hfz16_2
  try clear hfz18_0
  try clear hfz18_1
  try clear hfz18_2
  try clear hfz19_0
  try clear hfz19_1
  try clear hfz19_2
  try clear hfz22_0
  try clear hfz22_1
  try clear hfz22_2
  try clear hfz25_0
  try clear hfz25_1
  try clear hfz25_2
  try clear hfz29_0
  try clear hfz29_1
  try clear hfz29_2
  obtain ⟨kq,x27_2,rfl,HA,HJ2,BK450,BK451,BK452,HB⟩:=hcut
  cases kq with
  | zero => exact absurd HA.out (by simp [impl_MachineBoth.j0])
  | succ kj2 =>
   have H:=HA.out;clear HA
   simp only [impl_MachineBoth.j0] at H
   by_cases c31 : x27_2 = true
   ·
    subst c31
    have H1 : (some (([] : List Int),([] : List Int),([] : List Int),false)) = some (r1,r2,r3,r4):=by rw [if_pos rfl] at H;exact H
    clear H;have H:=H1;clear H1
    simp only [Option.some.injEq,Prod.mk.injEq] at H
    obtain ⟨rfl,rfl,rfl,rfl⟩:=H;have hnb32:=NB452_450.out;have hnc32:=NB450_452.out;have hnb33:=NB452_451.out;have hnc33:=NB451_452.out
    have hcz34_0 : wc.cell? ⟨gb452,0,none⟩ = some (.slice none 0 0):=(blk_cell BK452.out 0).trans rfl
    have hcz34_1 : wc.cell? ⟨gb452,1,none⟩ = some (.slice none 0 0):=(blk_cell BK452.out 1).trans rfl
    have hcz34_2 : wc.cell? ⟨gb452,2,none⟩ = some (.slice none 0 0):=(blk_cell BK452.out 2).trans rfl
    have hfz34_0:=blk_frozen BK452.out 0
    have hfz34_1:=blk_frozen BK452.out 1
    have hfz34_2:=blk_frozen BK452.out 2
    go_wp2
    refine bodyPost_ret (results_ct rfl _ _ gb452 25 #[.slice none 0 0,.slice none 0 0,.slice none 0 0] (0,0) _ rfl (by (with_reducible repeat (first|refine blk_drewN ?_ _|refine blk_drew ?_|refine blk_alloc ?_ _));refine blk_put (cs:=#[.slice none 0 0,.slice none 0 0,.slice none 0 0]) ?_ 2 _ rfl;(with_reducible repeat (first|refine blk_drewN ?_ _|refine blk_drew ?_|refine blk_alloc ?_ _));refine blk_put (cs:=#[.slice none 0 0,.slice none 0 0,.slice none 0 0]) ?_ 1 _ rfl;(with_reducible repeat (first|refine blk_drewN ?_ _|refine blk_drew ?_|refine blk_alloc ?_ _));refine blk_put (cs:=#[.slice none 0 0,.slice none 0 0,.slice none 0 0]) ?_ 0 _ rfl;(with_reducible repeat (first|refine blk_drewN ?_ _|refine blk_drew ?_|refine blk_alloc ?_ _));exact BK452.out) Tryd.underlying25 rfl (by kernel_rfl)) rfl ?_
    exact ⟨_,_,_,by first|rfl|(simp [errW_none,errW_some] <;> rfl)|(simp [*,errW_none,errW_some] <;> rfl),by first|exact Kd.R_nil _ _ _ _ _|exact Kd.N_nil _ _ _ _ _|exact Kd.V_nil _ _ _ _ _|exact Kd.Q_nil _ _ _ _ _|exact Kd.S_nil _ _ _ _ _,by first|exact Kd.R_nil _ _ _ _ _|exact Kd.N_nil _ _ _ _ _|exact Kd.V_nil _ _ _ _ _|exact Kd.Q_nil _ _ _ _ _|exact Kd.S_nil _ _ _ _ _,by first|exact Kd.R_nil _ _ _ _ _|exact Kd.N_nil _ _ _ _ _|exact Kd.V_nil _ _ _ _ _|exact Kd.Q_nil _ _ _ _ _|exact Kd.S_nil _ _ _ _ _,by repeat (first|(with_reducible first|exact HB.out|apply below_alloc|apply pw_below_drewN|apply below_drew1|refine below_set ?_ GE450.out|refine below_set ?_ GE451.out|refine below_set ?_ GE452.out)|exact HB.out)⟩
   ·
    replace c31:=Bool.eq_false_iff.mpr c31;subst c31
    have H1 : (impl_MachineBoth.l0 kj2 (l1_2.length : Int) (l0_2.length : Int) 0 l0_0 l0_1 l0_2 l1_0 l1_1 l1_2 ([] : List Int) ([] : List Int) ([] : List Int)) = some (r1,r2,r3,r4):=by rw [if_neg (show ¬ (false = true) by decide)] at H;exact H
    clear H;have H:=H1;clear H1
    have H':=Aside0.mk H;clear H
    go_wp2_with (first|((with_reducible refine gate_dst (N:=6) rfl ?_);(try (refine gate_guard (by rfl) ?_;dsimp only));refine box_event ?hg (N:=6) ?hd (cs:=#[.slice none 0 0,.slice none 0 0,.slice none 0 0]) (t:=25) ?hr ?_;(case hd => rfl);(case hg => rfl);(case hr => first|(go_simp;done)|(go_simp;rfl));intro gb455 hg w35 hbox hb;have n0_:=Aside0.mk (blk_below (g:=gb450) (o:=.cells #[.slice A0_0 l0_0.length c0_0,.slice A0_1 l0_1.length c0_1,.slice A0_2 l0_2.length c0_2] 25 (0,0)) (blkU BK450.out) hb);have n1_:=Aside0.mk (blk_below (g:=gb451) (o:=.cells #[.slice A1_0 l1_0.length c1_0,.slice A1_1 l1_1.length c1_1,.slice A1_2 l1_2.length c1_2] 25 (0,0)) (blkU BK451.out) hb);have n2_:=Aside0.mk (blk_below (g:=gb452) (o:=.cells #[.slice none 0 0,.slice none 0 0,.slice none 0 0] 25 (0,0)) (blkU BK452.out) hb);have n3_:=Aside0.mk (below_step (by repeat (first|(with_reducible first|exact HB.out|apply below_alloc|apply pw_below_drewN|apply below_drew1|refine below_set ?_ GE450.out|refine below_set ?_ GE451.out|refine below_set ?_ GE452.out)|exact HB.out)) hb);have n4_:=Aside0.mk (hbox);have n5_:=Aside0.mk ((by rw [hg];exact (below_size (by repeat (first|(with_reducible first|exact HB.out|apply below_alloc|apply pw_below_drewN|apply below_drew1|refine below_set ?_ GE450.out|refine below_set ?_ GE451.out|refine below_set ?_ GE452.out)|exact HB.out))) : w.heap.size ≤ gb455));have n6_:=Aside0.mk ((by rw [hg];exact (below_size (by repeat (first|(with_reducible first|exact HB.out|apply below_alloc|apply pw_below_drewN|apply below_drew1|refine below_set ?_ GE450.out|refine below_set ?_ GE451.out|refine below_set ?_ GE452.out)|exact HB.out))) : w.heap.size ≤ gb455));have n7_:=Aside0.mk ((by rw [hg];exact Nat.ne_of_lt (blk_lt (g:=gb450) (o:=.cells #[.slice A0_0 l0_0.length c0_0,.slice A0_1 l0_1.length c0_1,.slice A0_2 l0_2.length c0_2] 25 (0,0)) (blkU BK450.out)) : gb450 ≠ gb455));have n8_:=Aside0.mk ((by rw [hg];exact Nat.ne_of_gt (blk_lt (g:=gb450) (o:=.cells #[.slice A0_0 l0_0.length c0_0,.slice A0_1 l0_1.length c0_1,.slice A0_2 l0_2.length c0_2] 25 (0,0)) (blkU BK450.out)) : gb455 ≠ gb450));have n9_:=Aside0.mk ((by rw [hg];exact Nat.ne_of_lt (blk_lt (g:=gb451) (o:=.cells #[.slice A1_0 l1_0.length c1_0,.slice A1_1 l1_1.length c1_1,.slice A1_2 l1_2.length c1_2] 25 (0,0)) (blkU BK451.out)) : gb451 ≠ gb455));have n10_:=Aside0.mk ((by rw [hg];exact Nat.ne_of_gt (blk_lt (g:=gb451) (o:=.cells #[.slice A1_0 l1_0.length c1_0,.slice A1_1 l1_1.length c1_1,.slice A1_2 l1_2.length c1_2] 25 (0,0)) (blkU BK451.out)) : gb455 ≠ gb451));have n11_:=Aside0.mk ((by rw [hg];exact Nat.ne_of_lt (blk_lt (g:=gb452) (o:=.cells #[.slice none 0 0,.slice none 0 0,.slice none 0 0] 25 (0,0)) (blkU BK452.out)) : gb452 ≠ gb455));have n12_:=Aside0.mk ((by rw [hg];exact Nat.ne_of_gt (blk_lt (g:=gb452) (o:=.cells #[.slice none 0 0,.slice none 0 0,.slice none 0 0] 25 (0,0)) (blkU BK452.out)) : gb455 ≠ gb452));clear BK450 BK451 BK452 HB;have BK450:=n0_;have BK451:=n1_;have BK452:=n2_;have HB:=n3_;have BK455:=n4_;have GW455:=n5_;have GE455:=n6_;have NB450_455:=n7_;have NB455_450:=n8_;have NB451_455:=n9_;have NB455_451:=n10_;have NB452_455:=n11_;have NB455_452:=n12_;clear n0_ n1_ n2_ n3_ n4_ n5_ n6_ n7_ n8_ n9_ n10_ n11_ n12_ hb hbox hg;have hnb36:=NB455_450.out;have hnc36:=NB450_455.out;have hnb37:=NB455_451.out;have hnc37:=NB451_455.out;have hnb38:=NB455_452.out;have hnc38:=NB452_455.out;have hcz39_0 : w35.cell? ⟨gb455,0,none⟩ = some (.slice none 0 0):=(blk_cell BK455.out 0).trans rfl;have hcz39_1 : w35.cell? ⟨gb455,1,none⟩ = some (.slice none 0 0):=(blk_cell BK455.out 1).trans rfl;have hcz39_2 : w35.cell? ⟨gb455,2,none⟩ = some (.slice none 0 0):=(blk_cell BK455.out 2).trans rfl;have hfz39_0:=blk_frozen BK455.out 0;have hfz39_1:=blk_frozen BK455.out 1;have hfz39_2:=blk_frozen BK455.out 2;have hnb40:=NB451_450.out;have hnc40:=NB450_451.out;have hnb41:=NB451_452.out;have hnc41:=NB452_451.out;have hcz42_0 : w35.cell? ⟨gb451,0,none⟩ = some (.slice A1_0 l1_0.length c1_0):=(blk_cell BK451.out 0).trans rfl;have hcz42_1 : w35.cell? ⟨gb451,1,none⟩ = some (.slice A1_1 l1_1.length c1_1):=(blk_cell BK451.out 1).trans rfl;have hcz42_2 : w35.cell? ⟨gb451,2,none⟩ = some (.slice A1_2 l1_2.length c1_2):=(blk_cell BK451.out 2).trans rfl;have hfz42_0:=blk_frozen BK451.out 0;have hfz42_1:=blk_frozen BK451.out 1;have hfz42_2:=blk_frozen BK451.out 2;have hnb43:=NB450_452.out;have hnc43:=NB452_450.out;have hcz44_0 : w35.cell? ⟨gb450,0,none⟩ = some (.slice A0_0 l0_0.length c0_0):=(blk_cell BK450.out 0).trans rfl;have hcz44_1 : w35.cell? ⟨gb450,1,none⟩ = some (.slice A0_1 l0_1.length c0_1):=(blk_cell BK450.out 1).trans rfl;have hcz44_2 : w35.cell? ⟨gb450,2,none⟩ = some (.slice A0_2 l0_2.length c0_2):=(blk_cell BK450.out 2).trans rfl;have hfz44_0:=blk_frozen BK450.out 0;have hfz44_1:=blk_frozen BK450.out 1;have hfz44_2:=blk_frozen BK450.out 2))
    go_loopg [36] kj2 (fun kq v36 w' => ∃ (x36_2 : Int) (x456000_2 : List Int) (x456001_2 : List Int) (x456002_2 : List Int) (u456000 : Value) (u456001 : Value) (u456002 : Value),v36 = .int .i64 x36_2 ∧ Aside0 (impl_MachineBoth.l0 kq (l1_2.length : Int) (l0_2.length : Int) x36_2 l0_0 l0_1 l0_2 l1_0 l1_1 l1_2 x456000_2 x456001_2 x456002_2 = some (r1,r2,r3,r4)) ∧ Aside0 (kq ≤ kj2) ∧ Aside0 (Kd.R (Kd.int .i64) 3 w' w.heap.size (fun k_ => some k_ ≠ (u456001 : Value).ownBlock ∧ some k_ ≠ (u456002 : Value).ownBlock) u456000 x456000_2) ∧ Aside0 (Kd.R (Kd.int .i64) 3 w' w.heap.size (fun k_ => some k_ ≠ (u456000 : Value).ownBlock ∧ some k_ ≠ (u456002 : Value).ownBlock) u456001 x456001_2) ∧ Aside0 (Kd.R (Kd.int .i64) 3 w' w.heap.size (fun k_ => some k_ ≠ (u456000 : Value).ownBlock ∧ some k_ ≠ (u456001 : Value).ownBlock) u456002 x456002_2) ∧ Aside0 (w'.heap[gb450]? = some (.cells #[(.slice A0_0 l0_0.length c0_0),(.slice A0_1 l0_1.length c0_1),(.slice A0_2 l0_2.length c0_2)] 25 (0,0))) ∧ Aside0 (w'.heap[gb451]? = some (.cells #[(.slice A1_0 l1_0.length c1_0),(.slice A1_1 l1_1.length c1_1),(.slice A1_2 l1_2.length c1_2)] 25 (0,0))) ∧ Aside0 (w'.heap[gb452]? = some (.cells #[(.slice none 0 0),(.slice none 0 0),(.slice none 0 0)] 25 (0,0))) ∧ Aside0 (w'.heap[gb455]? = some (.cells #[u456000,u456001,u456002] 25 (0,0))) ∧ Aside0 (Below w.heap.size w w'))
    case atStart => exact ⟨(0),(([] : List Int)),(([] : List Int)),(([] : List Int)),(.slice none 0 0),(.slice none 0 0),(.slice none 0 0),(by first|rfl|(simp;done)|(simp [*];done)),H',⟨Nat.le_refl _⟩,⟨by first|exact Kd.R_nil _ _ _ _ _|exact Kd.N_nil _ _ _ _ _|exact Kd.V_nil _ _ _ _ _|exact Kd.Q_nil _ _ _ _ _|exact Kd.S_nil _ _ _ _ _⟩,⟨by first|exact Kd.R_nil _ _ _ _ _|exact Kd.N_nil _ _ _ _ _|exact Kd.V_nil _ _ _ _ _|exact Kd.Q_nil _ _ _ _ _|exact Kd.S_nil _ _ _ _ _⟩,⟨by first|exact Kd.R_nil _ _ _ _ _|exact Kd.N_nil _ _ _ _ _|exact Kd.V_nil _ _ _ _ _|exact Kd.Q_nil _ _ _ _ _|exact Kd.S_nil _ _ _ _ _⟩,⟨by (with_reducible repeat (first|refine blk_drewN ?_ _|refine blk_drew ?_|refine blk_alloc ?_ _));refine blk_far ?_ NB450_455.out _;(with_reducible repeat (first|refine blk_drewN ?_ _|refine blk_drew ?_|refine blk_alloc ?_ _));refine blk_far ?_ NB450_455.out _;(with_reducible repeat (first|refine blk_drewN ?_ _|refine blk_drew ?_|refine blk_alloc ?_ _));refine blk_far ?_ NB450_455.out _;(with_reducible repeat (first|refine blk_drewN ?_ _|refine blk_drew ?_|refine blk_alloc ?_ _));exact BK450.out⟩,⟨by (with_reducible repeat (first|refine blk_drewN ?_ _|refine blk_drew ?_|refine blk_alloc ?_ _));refine blk_far ?_ NB451_455.out _;(with_reducible repeat (first|refine blk_drewN ?_ _|refine blk_drew ?_|refine blk_alloc ?_ _));refine blk_far ?_ NB451_455.out _;(with_reducible repeat (first|refine blk_drewN ?_ _|refine blk_drew ?_|refine blk_alloc ?_ _));refine blk_far ?_ NB451_455.out _;(with_reducible repeat (first|refine blk_drewN ?_ _|refine blk_drew ?_|refine blk_alloc ?_ _));exact BK451.out⟩,⟨by (with_reducible repeat (first|refine blk_drewN ?_ _|refine blk_drew ?_|refine blk_alloc ?_ _));refine blk_far ?_ NB452_455.out _;(with_reducible repeat (first|refine blk_drewN ?_ _|refine blk_drew ?_|refine blk_alloc ?_ _));refine blk_far ?_ NB452_455.out _;(with_reducible repeat (first|refine blk_drewN ?_ _|refine blk_drew ?_|refine blk_alloc ?_ _));refine blk_far ?_ NB452_455.out _;(with_reducible repeat (first|refine blk_drewN ?_ _|refine blk_drew ?_|refine blk_alloc ?_ _));exact BK452.out⟩,⟨by (with_reducible repeat (first|refine blk_drewN ?_ _|refine blk_drew ?_|refine blk_alloc ?_ _));refine blk_put (cs:=#[.slice none 0 0,.slice none 0 0,.slice none 0 0]) ?_ 2 _ rfl;(with_reducible repeat (first|refine blk_drewN ?_ _|refine blk_drew ?_|refine blk_alloc ?_ _));refine blk_put (cs:=#[.slice none 0 0,.slice none 0 0,.slice none 0 0]) ?_ 1 _ rfl;(with_reducible repeat (first|refine blk_drewN ?_ _|refine blk_drew ?_|refine blk_alloc ?_ _));refine blk_put (cs:=#[.slice none 0 0,.slice none 0 0,.slice none 0 0]) ?_ 0 _ rfl;(with_reducible repeat (first|refine blk_drewN ?_ _|refine blk_drew ?_|refine blk_alloc ?_ _));exact BK455.out⟩,⟨by repeat (first|(with_reducible first|exact HB.out|apply below_alloc|apply pw_below_drewN|apply below_drew1|refine below_set ?_ GE450.out|refine below_set ?_ GE451.out|refine below_set ?_ GE452.out|refine below_set ?_ GE455.out)|exact HB.out)⟩⟩
    case round =>
     clear H'
     try clear c1
     try clear c2
     try clear p2
     try clear c3
     try clear c4
     try clear p6
     try clear c8
     try clear c10
     try clear c11
     try clear c12
     try clear c13
     try clear c15
     try clear c20
     try clear c21
     try clear c22
     try clear c24
     try clear c27
     try clear c28
     try clear c31
     try clear c32
     try clear c33
     try clear c36
     try clear c37
     try clear c38
     try clear c40
     try clear c41
     try clear c43
     try clear hcz13_0
     try clear hcz13_1
     try clear hcz13_2
     try clear hcz16_0
     try clear hcz16_1
     try clear hcz16_2
     try clear hcz18_0
     try clear hcz18_1
     try clear hcz18_2
     try clear hcz19_0
     try clear hcz19_1
     try clear hcz19_2
     try clear hcz22_0
     try clear hcz22_1
     try clear hcz22_2
     try clear hcz25_0
     try clear hcz25_1
     try clear hcz25_2
     try clear hcz29_0
     try clear hcz29_1
     try clear hcz29_2
     try clear hcz34_0
     try clear hcz34_1
     try clear hcz34_2
     try clear hcz39_0
     try clear hcz39_1
     try clear hcz39_2
     try clear hcz42_0
     try clear hcz42_1
     try clear hcz42_2
     try clear hcz44_0
     try clear hcz44_1
     try clear hcz44_2
     try clear hfz13_0
     try clear hfz13_1
     try clear hfz13_2
     try clear hfz16_0
     try clear hfz16_1
     try clear hfz16_2
     try clear hfz18_0
     try clear hfz18_1
     try clear hfz18_2
     try clear hfz19_0
     try clear hfz19_1
     try clear hfz19_2
     try clear hfz22_0
     try clear hfz22_1
     try clear hfz22_2
     try clear hfz25_0
     try clear hfz25_1
     try clear hfz25_2
     try clear hfz29_0
     try clear hfz29_1
     try clear hfz29_2
     try clear hfz34_0
     try clear hfz34_1
     try clear hfz34_2
     try clear hfz39_0
     try clear hfz39_1
     try clear hfz39_2
     try clear hfz42_0
     try clear hfz42_1
     try clear hfz42_2
     try clear hfz44_0
     try clear hfz44_1
     try clear hfz44_2
     try clear p2
     try clear p6
     obtain ⟨x36_2,x456000_2,x456001_2,x456002_2,u456000,u456001,u456002,rfl,HA,HK2,HO_456000,HO_456001,HO_456002,BK450,BK451,BK452,BK455,HB⟩:=hrel
     cases gk with
     | zero => exact absurd HA.out (by simp [impl_MachineBoth.l0])
     | succ k2 =>
      have H:=HA.out;clear HA
      simp only [impl_MachineBoth.l0] at H
      by_cases c45 : x36_2 < (l0_2.length : Int)
      ·
       rw [if_pos c45] at H
       have c45b0 : decide (x36_2 < (l0_2.length : Int)) = true:=decide_eq_true c45;clear c45
       have H':=Aside0.mk H;clear H;have hnb46:=NB451_450.out;have hnc46:=NB450_451.out;have hnb47:=NB451_452.out;have hnc47:=NB452_451.out;have hnb48:=NB451_455.out;have hnc48:=NB455_451.out
       have hcz49_0 : wr.cell? ⟨gb451,0,none⟩ = some (.slice A1_0 l1_0.length c1_0):=(blk_cell BK451.out 0).trans rfl
       have hcz49_1 : wr.cell? ⟨gb451,1,none⟩ = some (.slice A1_1 l1_1.length c1_1):=(blk_cell BK451.out 1).trans rfl
       have hcz49_2 : wr.cell? ⟨gb451,2,none⟩ = some (.slice A1_2 l1_2.length c1_2):=(blk_cell BK451.out 2).trans rfl
       have hfz49_0:=blk_frozen BK451.out 0
       have hfz49_1:=blk_frozen BK451.out 1
       have hfz49_2:=blk_frozen BK451.out 2
       go_wp2
       go_loopg [42] k2 (fun kq v42 w' => ∃ (x42_3 : Int) (x456000_3 : List Int) (x456001_3 : List Int) (x456002_3 : List Int) (u456000 : Value) (u456001 : Value) (u456002 : Value),v42 = .int .i64 x42_3 ∧ Aside0 (impl_MachineBoth.l1 kq (l1_2.length : Int) x36_2 (l0_2.length : Int) x36_2 (l1_2.length : Int) x42_3 l0_0 l0_1 l0_2 l1_0 l1_1 l1_2 x456000_3 x456001_3 x456002_3 = some (r1,r2,r3,r4)) ∧ Aside0 (kq ≤ k2) ∧ Aside0 (Kd.R (Kd.int .i64) 3 w' w.heap.size (fun k_ => some k_ ≠ (u456001 : Value).ownBlock ∧ some k_ ≠ (u456002 : Value).ownBlock) u456000 x456000_3) ∧ Aside0 (Kd.R (Kd.int .i64) 3 w' w.heap.size (fun k_ => some k_ ≠ (u456000 : Value).ownBlock ∧ some k_ ≠ (u456002 : Value).ownBlock) u456001 x456001_3) ∧ Aside0 (Kd.R (Kd.int .i64) 3 w' w.heap.size (fun k_ => some k_ ≠ (u456000 : Value).ownBlock ∧ some k_ ≠ (u456001 : Value).ownBlock) u456002 x456002_3) ∧ Aside0 (w'.heap[gb450]? = some (.cells #[(.slice A0_0 l0_0.length c0_0),(.slice A0_1 l0_1.length c0_1),(.slice A0_2 l0_2.length c0_2)] 25 (0,0))) ∧ Aside0 (w'.heap[gb451]? = some (.cells #[(.slice A1_0 l1_0.length c1_0),(.slice A1_1 l1_1.length c1_1),(.slice A1_2 l1_2.length c1_2)] 25 (0,0))) ∧ Aside0 (w'.heap[gb452]? = some (.cells #[(.slice none 0 0),(.slice none 0 0),(.slice none 0 0)] 25 (0,0))) ∧ Aside0 (w'.heap[gb455]? = some (.cells #[u456000,u456001,u456002] 25 (0,0))) ∧ Aside0 (Below w.heap.size w w'))
       case atStart => exact ⟨(0),(x456000_2),(x456001_2),(x456002_2),(u456000),(u456001),(u456002),(by first|rfl|(simp;done)|(simp [*];done)),H',⟨Nat.le_refl _⟩,⟨rU HO_456000.out⟩,⟨rU HO_456001.out⟩,⟨rU HO_456002.out⟩,⟨blkU BK450.out⟩,⟨blkU BK451.out⟩,⟨blkU BK452.out⟩,⟨blkU BK455.out⟩,⟨by repeat (first|(with_reducible first|exact HB.out|apply below_alloc|apply pw_below_drewN|apply below_drew1|refine below_set ?_ GE450.out|refine below_set ?_ GE451.out|refine below_set ?_ GE452.out|refine below_set ?_ GE455.out)|exact HB.out)⟩⟩
       case round =>
        clear H'
        try clear c1
        try clear c2
        try clear p2
        try clear c3
        try clear c4
        try clear p6
        try clear c8
        try clear c10
        try clear c11
        try clear c12
        try clear c13
        try clear c15
        try clear c20
        try clear c21
        try clear c22
        try clear c24
        try clear c27
        try clear c28
        try clear c31
        try clear c32
        try clear c33
        try clear c36
        try clear c37
        try clear c38
        try clear c40
        try clear c41
        try clear c43
        try clear c45
        try clear c45b0
        try clear c46
        try clear c47
        try clear c48
        try clear hcz13_0
        try clear hcz13_1
        try clear hcz13_2
        try clear hcz16_0
        try clear hcz16_1
        try clear hcz16_2
        try clear hcz18_0
        try clear hcz18_1
        try clear hcz18_2
        try clear hcz19_0
        try clear hcz19_1
        try clear hcz19_2
        try clear hcz22_0
        try clear hcz22_1
        try clear hcz22_2
        try clear hcz25_0
        try clear hcz25_1
        try clear hcz25_2
        try clear hcz29_0
        try clear hcz29_1
        try clear hcz29_2
        try clear hcz34_0
        try clear hcz34_1
        try clear hcz34_2
        try clear hcz39_0
        try clear hcz39_1
        try clear hcz39_2
        try clear hcz42_0
        try clear hcz42_1
        try clear hcz42_2
        try clear hcz44_0
        try clear hcz44_1
        try clear hcz44_2
        try clear hcz49_0
        try clear hcz49_1
        try clear hcz49_2
        try clear hfz13_0
        try clear hfz13_1
        try clear hfz13_2
        try clear hfz16_0
        try clear hfz16_1
        try clear hfz16_2
        try clear hfz18_0
        try clear hfz18_1
        try clear hfz18_2
        try clear hfz19_0
        try clear hfz19_1
        try clear hfz19_2
        try clear hfz22_0
        try clear hfz22_1
        try clear hfz22_2
        try clear hfz25_0
        try clear hfz25_1
        try clear hfz25_2
        try clear hfz29_0
        try clear hfz29_1
        try clear hfz29_2
        try clear hfz34_0
        try clear hfz34_1
        try clear hfz34_2
        try clear hfz39_0
        try clear hfz39_1
        try clear hfz39_2
        try clear hfz42_0
        try clear hfz42_1
        try clear hfz42_2
        try clear hfz44_0
        try clear hfz44_1
        try clear hfz44_2
        try clear hfz49_0
        try clear hfz49_1
        try clear hfz49_2
        try clear p2
        try clear p6
        obtain ⟨x42_3,x456000_3,x456001_3,x456002_3,u456000,u456001,u456002,rfl,HA,HK3,HO_456000,HO_456001,HO_456002,BK450,BK451,BK452,BK455,HB⟩:=hrel
        cases gk with
        | zero => exact absurd HA.out (by simp [impl_MachineBoth.l1])
        | succ k3 =>
         have H:=HA.out;clear HA
         simp only [impl_MachineBoth.l1] at H
         by_cases c50 : x42_3 < (l1_2.length : Int)
         ·
          rw [if_pos c50] at H
          have c50b0 : decide (x42_3 < (l1_2.length : Int)) = true:=decide_eq_true c50;clear c50
          by_cases c51 : 0 ≤ x36_2
          ·
           rw [if_pos c51] at H
           have c51b0 : decide (0 ≤ x36_2) = true:=decide_eq_true c51;clear c51
           by_cases c52 : x36_2 < (l0_0.length : Int)
           ·
            rw [if_pos c52] at H
            have c52b0 : decide (x36_2 < (l0_0.length : Int)) = true:=decide_eq_true c52;clear c52
            by_cases c53 : 0 ≤ x42_3
            ·
             rw [if_pos c53] at H
             have c53b0 : decide (0 ≤ x42_3) = true:=decide_eq_true c53;clear c53
             by_cases c54 : x42_3 < (l1_0.length : Int)
             ·
              rw [if_pos c54] at H
              have c54b0 : decide (x42_3 < (l1_0.length : Int)) = true:=decide_eq_true c54;clear c54
              by_cases c55 : x456000_3.length < 17592186044416
              ·
               rw [if_pos c55] at H
               have LMc55:=Aside0.mk c55;clear c55
               obtain ⟨y458,hy458⟩ : ∃ y_ : List Int,y_ = (x456000_3 ++ [wrap64 ((wrap64 ((rd l0_0 x36_2) * (l1_2.length : Int))) + (rd l1_0 x42_3))]):=⟨_,rfl⟩
               replace H : (if x36_2 < (l0_1.length : Int) then (if x42_3 < (l1_1.length : Int) then (if x456001_3.length < 17592186044416 then (if x36_2 < (l0_2.length : Int) then (if x42_3 < (l1_2.length : Int) then (if x456002_3.length < 17592186044416 then (impl_MachineBoth.l1 k3 (l1_2.length : Int) x36_2 (l0_2.length : Int) x36_2 (l1_2.length : Int) (wrap64 (x42_3 + 1)) l0_0 l0_1 l0_2 l1_0 l1_1 l1_2 y458 (x456001_3 ++ [wrap64 ((wrap64 ((rd l0_1 x36_2) * (l1_2.length : Int))) + (rd l1_1 x42_3))]) (x456002_3 ++ [wrap64 ((rd l0_2 x36_2) * (rd l1_2 x42_3))])) else (none)) else (none)) else (none)) else (none)) else (none)) else (none)) = some (r1,r2,r3,r4):=by first|(rw [hy458];with_reducible exact H)|(have H2_:=(Option.bind_some _ _).symm.trans H;rw [hy458];with_reducible exact H2_)|(have H2_:=(Option.bind_some _ _).symm.trans H;with_reducible exact H2_)|with_reducible exact H|(rw [hy458];exact H)|exact H
               have Ny458:=Aside0.mk hy458;clear hy458
               by_cases c56 : x36_2 < (l0_1.length : Int)
               ·
                rw [if_pos c56] at H
                have c56b0 : decide (x36_2 < (l0_1.length : Int)) = true:=decide_eq_true c56;clear c56
                by_cases c57 : x42_3 < (l1_1.length : Int)
                ·
                 rw [if_pos c57] at H
                 have c57b0 : decide (x42_3 < (l1_1.length : Int)) = true:=decide_eq_true c57;clear c57
                 by_cases c58 : x456001_3.length < 17592186044416
                 ·
                  rw [if_pos c58] at H
                  have LMc58:=Aside0.mk c58;clear c58
                  obtain ⟨y463,hy463⟩ : ∃ y_ : List Int,y_ = (x456001_3 ++ [wrap64 ((wrap64 ((rd l0_1 x36_2) * (l1_2.length : Int))) + (rd l1_1 x42_3))]):=⟨_,rfl⟩
                  replace H : (if x36_2 < (l0_2.length : Int) then (if x42_3 < (l1_2.length : Int) then (if x456002_3.length < 17592186044416 then (impl_MachineBoth.l1 k3 (l1_2.length : Int) x36_2 (l0_2.length : Int) x36_2 (l1_2.length : Int) (wrap64 (x42_3 + 1)) l0_0 l0_1 l0_2 l1_0 l1_1 l1_2 y458 y463 (x456002_3 ++ [wrap64 ((rd l0_2 x36_2) * (rd l1_2 x42_3))])) else (none)) else (none)) else (none)) = some (r1,r2,r3,r4):=by first|(rw [hy463];with_reducible exact H)|(have H2_:=(Option.bind_some _ _).symm.trans H;rw [hy463];with_reducible exact H2_)|(have H2_:=(Option.bind_some _ _).symm.trans H;with_reducible exact H2_)|with_reducible exact H|(rw [hy463];exact H)|exact H
                  have Ny463:=Aside0.mk hy463;clear hy463
                  by_cases c59 : x36_2 < (l0_2.length : Int)
                  ·
                   rw [if_pos c59] at H
                   have c59b0 : decide (x36_2 < (l0_2.length : Int)) = true:=decide_eq_true c59;clear c59
                   by_cases c60 : x42_3 < (l1_2.length : Int)
                   ·
                    rw [if_pos c60] at H
                    have c60b0 : decide (x42_3 < (l1_2.length : Int)) = true:=decide_eq_true c60;clear c60
                    by_cases c61 : x456002_3.length < 17592186044416
                    ·
                     rw [if_pos c61] at H
                     have LMc61:=Aside0.mk c61;clear c61
                     obtain ⟨y468,hy468⟩ : ∃ y_ : List Int,y_ = (x456002_3 ++ [wrap64 ((rd l0_2 x36_2) * (rd l1_2 x42_3))]):=⟨_,rfl⟩
                     replace H : (impl_MachineBoth.l1 k3 (l1_2.length : Int) x36_2 (l0_2.length : Int) x36_2 (l1_2.length : Int) (wrap64 (x42_3 + 1)) l0_0 l0_1 l0_2 l1_0 l1_1 l1_2 y458 y463 y468) = some (r1,r2,r3,r4):=by first|(rw [hy468];with_reducible exact H)|(have H2_:=(Option.bind_some _ _).symm.trans H;rw [hy468];with_reducible exact H2_)|(have H2_:=(Option.bind_some _ _).symm.trans H;with_reducible exact H2_)|with_reducible exact H|(rw [hy468];exact H)|exact H
                     have Ny468:=Aside0.mk hy468;clear hy468
                     have H':=Aside0.mk H;clear H
                     try go_wp2
                     have n0_:=Aside0.mk (Kd.R_drew HO_456000.out);have n1_:=Aside0.mk (Kd.R_drew HO_456001.out);have n2_:=Aside0.mk (Kd.R_drew HO_456002.out);have n3_:=Aside0.mk (blk_drew BK450.out);have n4_:=Aside0.mk (blk_drew BK451.out);have n5_:=Aside0.mk (blk_drew BK452.out);have n6_:=Aside0.mk (blk_drew BK455.out);have n7_:=Aside0.mk (below_drew1 HB.out);clear HO_456000 HO_456001 HO_456002 BK450 BK451 BK452 BK455 HB;have HO_456000:=n0_;have HO_456001:=n1_;have HO_456002:=n2_;have BK450:=n3_;have BK451:=n4_;have BK452:=n5_;have BK455:=n6_;have HB:=n7_;clear n0_ n1_ n2_ n3_ n4_ n5_ n6_ n7_
                     have p456 : 0 ≤ (x36_2 : Int):=of_decide_eq_true (by first|(with_reducible assumption)|assumption)
                     have q456 : x36_2 < (l0_0.length : Int):=of_decide_eq_true (by first|(with_reducible assumption)|assumption)
                     obtain ⟨ad456,e456,hx456_0⟩:=Kd.at_int HR0_0.out x36_2 p456 q456;have hw456_0:=hx456_0
                     cases e456
                     replace hx456_0:=(HB.out.cell (World.block_lt_of_cell? w _ hx456_0)).trans hx456_0
                     replace p456:=eq_true p456
                     replace q456:=eq_true q456
                     have p457 : 0 ≤ (x42_3 : Int):=of_decide_eq_true (by first|(with_reducible assumption)|assumption)
                     have q457 : x42_3 < (l1_0.length : Int):=of_decide_eq_true (by first|(with_reducible assumption)|assumption)
                     obtain ⟨ad457,e457,hx457_0⟩:=Kd.at_int HR1_0.out x42_3 p457 q457;have hw457_0:=hx457_0
                     cases e457
                     replace hx457_0:=(HB.out.cell (World.block_lt_of_cell? w _ hx457_0)).trans hx457_0
                     replace p457:=eq_true p457
                     replace q457:=eq_true q457
                     refine start_ (n:=19) (S:=fun w' => w'.cell? ⟨gb455,0,none⟩ = some (u456000) ∧ w'.cell? ⟨gb455,1,none⟩ = some (u456001) ∧ w'.cell? ⟨gb455,2,none⟩ = some (u456002) ∧ w'.cell? ⟨gb450,0,none⟩ = some (.slice (some ad456) l0_0.length c0_0) ∧ w'.cell? ⟨gb450,1,none⟩ = some (.slice A0_1 l0_1.length c0_1) ∧ w'.cell? ⟨gb450,2,none⟩ = some (.slice A0_2 l0_2.length c0_2) ∧ w'.cell? ⟨gb451,0,none⟩ = some (.slice (some ad457) l1_0.length c1_0) ∧ w'.cell? ⟨gb451,1,none⟩ = some (.slice A1_1 l1_1.length c1_1) ∧ w'.cell? ⟨gb451,2,none⟩ = some (.slice A1_2 l1_2.length c1_2) ∧ w'.cell? (ad456.add (x36_2).toNat) = some (.int .i64 (rd l0_0 x36_2)) ∧ w'.cell? (ad457.add (x42_3).toNat) = some (.int .i64 (rd l1_0 x42_3))) (ds:=[18]) #[false,false,false,false,false,false,false,false,false,false,false,false,false,false,false,false,false,false,false] (by kernel_rfl) rfl rfl ⟨(blk_cell BK455.out 0).trans rfl,(blk_cell BK455.out 1).trans rfl,(blk_cell BK455.out 2).trans rfl,(blk_cell BK450.out 0).trans rfl,(blk_cell BK450.out 1).trans rfl,(blk_cell BK450.out 2).trans rfl,(blk_cell BK451.out 0).trans rfl,(blk_cell BK451.out 1).trans rfl,(blk_cell BK451.out 2).trans rfl,((HB.out.cell (World.block_lt_of_cell? w _ hw456_0)).trans hw456_0),((HB.out.cell (World.block_lt_of_cell? w _ hw457_0)).trans hw457_0)⟩ (fun hHeld => ?_);refine with_tabW impl_MachineBoth.tab11 impl_MachineBoth.bits11 (fun HT_ HW_ => ?_)
                     generalize wr.drew = w62 at HO_456000 HO_456001 HO_456002 BK450 BK451 BK452 BK455 HB hx456_0 hx457_0 hHeld ⊢
                     refine pure_ (i:=0) (N:=some 45) (v:=?_) (a':=?_) #[true,false,false,false,false,false,false,false,false,false,false,false,false,false,false,false,false,false,false] rfl rfl (any_of HT_.out (by kernel_rfl)) (fun _ _ _ h => h) (Or.inl ⟨by rfl,?_⟩) ?_ ?_;rotate_left
                     ·
                      intro w'
                      go_simp
                      with_reducible rfl
                     rotate_left
                     ·
                      simp only [Act.put,List.setIfInBounds_toArray,List.set_cons_zero,List.set_cons_succ,i64_w,i32_w]
                      rfl
                     refine pure_ (i:=2) (N:=some 47) (v:=?_) (a':=?_) #[true,false,true,false,false,false,false,false,false,false,false,false,false,false,false,false,false,false,false] rfl rfl (any_of HT_.out (by kernel_rfl)) (fun _ _ _ h => h) (Or.inl ⟨by rfl,?_⟩) ?_ ?_;rotate_left
                     ·
                      intro w'
                      go_simp
                      with_reducible rfl
                     rotate_left
                     ·
                      simp only [Act.put,List.setIfInBounds_toArray,List.set_cons_zero,List.set_cons_succ,i64_w,i32_w]
                      rfl
                     refine pure_ (i:=4) (N:=some 49) (v:=?_) (a':=?_) #[true,false,true,false,true,false,false,false,false,false,false,false,false,false,false,false,false,false,false] rfl rfl (any_of HT_.out (by kernel_rfl)) (fun _ _ _ h => h) (Or.inl ⟨by rfl,?_⟩) ?_ ?_;rotate_left
                     ·
                      intro w'
                      go_simp
                      with_reducible rfl
                     rotate_left
                     ·
                      simp only [Act.put,List.setIfInBounds_toArray,List.set_cons_zero,List.set_cons_succ,i64_w,i32_w]
                      rfl
                     refine pure_ (i:=7) (N:=some 52) (v:=?_) (a':=?_) #[true,false,true,false,true,false,false,true,false,false,false,false,false,false,false,false,false,false,false] rfl rfl (any_of HT_.out (by kernel_rfl)) (fun _ _ _ h => h) (Or.inl ⟨by rfl,?_⟩) ?_ ?_;rotate_left
                     ·
                      intro w'
                      go_simp
                      with_reducible rfl
                     rotate_left
                     ·
                      simp only [Act.put,List.setIfInBounds_toArray,List.set_cons_zero,List.set_cons_succ,i64_w,i32_w]
                      rfl
                     refine pure_ (i:=9) (N:=some 54) (v:=?_) (a':=?_) #[true,false,true,false,true,false,false,true,false,true,false,false,false,false,false,false,false,false,false] rfl rfl (any_of HT_.out (by kernel_rfl)) (fun _ _ _ h => h) (Or.inl ⟨by rfl,?_⟩) ?_ ?_;rotate_left
                     ·
                      intro w'
                      go_simp
                      with_reducible rfl
                     rotate_left
                     ·
                      simp only [Act.put,List.setIfInBounds_toArray,List.set_cons_zero,List.set_cons_succ,i64_w,i32_w]
                      rfl
                     refine pure_ (i:=11) (N:=some 56) (v:=?_) (a':=?_) #[true,false,true,false,true,false,false,true,false,true,false,true,false,false,false,false,false,false,false] rfl rfl (any_of HT_.out (by kernel_rfl)) (fun _ _ _ h => h) (Or.inl ⟨by rfl,?_⟩) ?_ ?_;rotate_left
                     ·
                      intro w'
                      go_simp
                      with_reducible rfl
                     rotate_left
                     ·
                      simp only [Act.put,List.setIfInBounds_toArray,List.set_cons_zero,List.set_cons_succ,i64_w,i32_w]
                      rfl
                     refine take_ (i:=1) (N:=some 46) (v:=?_) (a':=?_) #[true,true,true,false,true,false,false,true,false,true,false,true,false,false,false,false,false,false,false] rfl rfl (take_ofW HT_.out HW_.out (by kernel_rfl)) (fun _ _ _ h => h) (Or.inl ⟨by rfl,?_⟩) hHeld ?_ ?_;rotate_left
                     ·
                      rintro w' ⟨s0,s1,s2,s3,s4,s5,s6,s7,s8,s9,s10⟩
                      go_simp
                      with_reducible rfl
                     rotate_left
                     ·
                      simp only [Act.put,List.setIfInBounds_toArray,List.set_cons_zero,List.set_cons_succ,i64_w,i32_w]
                      rfl
                     refine take_ (i:=3) (N:=some 48) (v:=?_) (a':=?_) #[true,true,true,true,true,false,false,true,false,true,false,true,false,false,false,false,false,false,false] rfl rfl (take_ofW HT_.out HW_.out (by kernel_rfl)) (fun _ _ _ h => h) (Or.inl ⟨by rfl,?_⟩) hHeld ?_ ?_;rotate_left
                     ·
                      rintro w' ⟨s0,s1,s2,s3,s4,s5,s6,s7,s8,s9,s10⟩
                      go_simp
                      with_reducible rfl
                     rotate_left
                     ·
                      simp only [Act.put,List.setIfInBounds_toArray,List.set_cons_zero,List.set_cons_succ,i64_w,i32_w]
                      rfl
                     refine pure_ (i:=5) (N:=some 50) (v:=?_) (a':=?_) #[true,true,true,true,true,true,false,true,false,true,false,true,false,false,false,false,false,false,false] rfl rfl (any_of HT_.out (by kernel_rfl)) (fun _ _ _ h => h) (Or.inl ⟨by rfl,?_⟩) ?_ ?_;rotate_left
                     ·
                      intro w'
                      go_simp
                      with_reducible rfl
                     rotate_left
                     ·
                      simp only [Act.put,List.setIfInBounds_toArray,List.set_cons_zero,List.set_cons_succ,i64_w,i32_w]
                      rfl
                     refine take_ (i:=6) (N:=some 51) (v:=?_) (a':=?_) #[true,true,true,true,true,true,true,true,false,true,false,true,false,false,false,false,false,false,false] rfl rfl (take_ofW HT_.out HW_.out (by kernel_rfl)) (fun _ _ _ h => h) (Or.inl ⟨by rfl,?_⟩) hHeld ?_ ?_;rotate_left
                     ·
                      rintro w' ⟨s0,s1,s2,s3,s4,s5,s6,s7,s8,s9,s10⟩
                      go_simp
                      with_reducible rfl
                     rotate_left
                     ·
                      simp only [Act.put,List.setIfInBounds_toArray,List.set_cons_zero,List.set_cons_succ,i64_w,i32_w]
                      rfl
                     refine pure_ (i:=8) (N:=some 53) (v:=?_) (a':=?_) #[true,true,true,true,true,true,true,true,true,true,false,true,false,false,false,false,false,false,false] rfl rfl (any_of HT_.out (by kernel_rfl)) (fun _ _ _ h => h) (Or.inl ⟨by rfl,?_⟩) ?_ ?_;rotate_left
                     ·
                      intro w'
                      go_simp
                      with_reducible rfl
                     rotate_left
                     ·
                      simp only [Act.put,List.setIfInBounds_toArray,List.set_cons_zero,List.set_cons_succ,i64_w,i32_w]
                      rfl
                     refine take_ (i:=10) (N:=some 55) (v:=?_) (a':=?_) #[true,true,true,true,true,true,true,true,true,true,true,true,false,false,false,false,false,false,false] rfl rfl (take_ofW HT_.out HW_.out (by kernel_rfl)) (fun _ _ _ h => h) (Or.inl ⟨by rfl,?_⟩) hHeld ?_ ?_;rotate_left
                     ·
                      rintro w' ⟨s0,s1,s2,s3,s4,s5,s6,s7,s8,s9,s10⟩
                      go_simp
                      with_reducible rfl
                     rotate_left
                     ·
                      simp only [Act.put,List.setIfInBounds_toArray,List.set_cons_zero,List.set_cons_succ,i64_w,i32_w]
                      rfl
                     refine pure_ (i:=12) (N:=some 57) (v:=?_) (a':=?_) #[true,true,true,true,true,true,true,true,true,true,true,true,true,false,false,false,false,false,false] rfl rfl (any_of HT_.out (by kernel_rfl)) (fun _ _ _ h => h) (Or.inl ⟨by rfl,?_⟩) ?_ ?_;rotate_left
                     ·
                      intro w'
                      go_simp
                      with_reducible rfl
                     rotate_left
                     ·
                      simp only [Act.put,List.setIfInBounds_toArray,List.set_cons_zero,List.set_cons_succ,i64_w,i32_w]
                      rfl
                     refine take_ (i:=13) (N:=some 58) (v:=?_) (a':=?_) #[true,true,true,true,true,true,true,true,true,true,true,true,true,true,false,false,false,false,false] rfl rfl (take_ofW HT_.out HW_.out (by kernel_rfl)) (fun _ _ _ h => h) (Or.inl ⟨by rfl,?_⟩) hHeld ?_ ?_;rotate_left
                     ·
                      rintro w' ⟨s0,s1,s2,s3,s4,s5,s6,s7,s8,s9,s10⟩
                      go_simp
                      with_reducible rfl
                     rotate_left
                     ·
                      simp only [Act.put,List.setIfInBounds_toArray,List.set_cons_zero,List.set_cons_succ,i64_w,i32_w]
                      rfl
                     refine pure_ (i:=14) (N:=some 59) (v:=?_) (a':=?_) #[true,true,true,true,true,true,true,true,true,true,true,true,true,true,true,false,false,false,false] rfl rfl (any_of HT_.out (by kernel_rfl)) (fun _ _ _ h => h) (Or.inl ⟨by rfl,?_⟩) ?_ ?_;rotate_left
                     ·
                      intro w'
                      go_simp
                      with_reducible rfl
                     rotate_left
                     ·
                      simp only [Act.put,List.setIfInBounds_toArray,List.set_cons_zero,List.set_cons_succ,i64_w,i32_w]
                      rfl
                     refine one_ (i:=15) (N:=some 60) #[true,true,true,true,true,true,true,true,true,true,true,true,true,true,true,true,false,false,false] rfl rfl (one_of HT_.out (by kernel_rfl)) (by decide) (fun K hK => ?_)
                     refine value_ (w1:=?_) (v:=?_) (by rfl) rfl ?_ ?_
                     rotate_left 2
                     ·
                      go_simp
                      constructor
                      ·
                       rfl
                      ·
                       rfl
                     refine hK.out _ _ ⟨(blk_cell (blk_alloc BK455.out _) 0).trans rfl,(blk_cell (blk_alloc BK455.out _) 1).trans rfl,(blk_cell (blk_alloc BK455.out _) 2).trans rfl,(blk_cell (blk_alloc BK450.out _) 0).trans rfl,(blk_cell (blk_alloc BK450.out _) 1).trans rfl,(blk_cell (blk_alloc BK450.out _) 2).trans rfl,(blk_cell (blk_alloc BK451.out _) 0).trans rfl,(blk_cell (blk_alloc BK451.out _) 1).trans rfl,(blk_cell (blk_alloc BK451.out _) 2).trans rfl,(World.cell?_alloc_lt _ _ _ (World.block_lt_of_cell? _ _ (((HB.out.cell (World.block_lt_of_cell? w _ hw456_0)).trans hw456_0)))).trans (((HB.out.cell (World.block_lt_of_cell? w _ hw456_0)).trans hw456_0)),(World.cell?_alloc_lt _ _ _ (World.block_lt_of_cell? _ _ (((HB.out.cell (World.block_lt_of_cell? w _ hw457_0)).trans hw457_0)))).trans (((HB.out.cell (World.block_lt_of_cell? w _ hw457_0)).trans hw457_0))⟩ (fun hHeld => ?_);clear hK K
                     refine norm_ (a':=?_) ?_ ?_;rotate_left
                     ·
                      show Act.put _ (some 60) _ = _
                      simp only [Act.put,List.setIfInBounds_toArray,List.set_cons_zero,List.set_cons_succ,i64_w,i32_w]
                      rfl
                     refine one_ (i:=16) (N:=some 61) #[true,true,true,true,true,true,true,true,true,true,true,true,true,true,true,true,true,false,false] rfl rfl (one_of HT_.out (by kernel_rfl)) (by decide) (fun K hK => ?_)
                     refine Kd.R_append_step (Kd.int .i64) (w0:=w) w.heap.size (by rfl) (.tmp 46) (.tmp 60) 23 3 (.int .i64 0) 8 rfl Tryd.underlying23 info3 rfl (by decide) (by omega) u456000 x456000_3 (wrap64 ((wrap64 ((rd l0_0 x36_2) * (l1_2.length : Int))) + (rd l1_0 x42_3))) [.int .i64 (wrap64 ((wrap64 ((rd l0_0 x36_2) * (l1_2.length : Int))) + (rd l1_0 x42_3)))] (fun k_ => some k_ ≠ (u456001 : Value).ownBlock ∧ some k_ ≠ (u456002 : Value).ownBlock) (fun _ => False) rfl rfl ?aP (fun _ hk => hk.elim) ?aF ?aO ?aB ?aS ?aL ?_
                     (case aP => exact rfl)
                     (case aB => exact (by repeat (first|(with_reducible first|exact HB.out|apply below_alloc|apply pw_below_drewN|apply below_drew1|refine below_set ?_ GE450.out|refine below_set ?_ GE451.out|refine below_set ?_ GE452.out|refine below_set ?_ GE455.out)|exact HB.out)))
                     (case aF => exact (fun k_ hk => ⟨Kd.fresh' (Kd.R_lt (rU HO_456001.out)) k_ hk,Kd.fresh' (Kd.R_lt (rU HO_456002.out)) k_ hk⟩))
                     (case aO => exact (rU HO_456000.out))
                     (case aS => exact (below_size (by repeat (first|(with_reducible first|exact HB.out|apply below_alloc|apply pw_below_drewN|apply below_drew1|refine below_set ?_ GE450.out|refine below_set ?_ GE451.out|refine below_set ?_ GE452.out|refine below_set ?_ GE455.out)|exact HB.out))))
                     (case aL => have:=LMc55.out;omega);intro v459 w63 ho hb hg hat
                     rw [← Ny458.out] at ho;have n0_:=Aside0.mk (Kd.R_after (ok:=(fun k_ => some k_ ≠ (u456002 : Value).ownBlock)) (by (with_reducible repeat (first|apply Kd.R_alloc|apply Kd.R_drewN|apply Kd.R_drew));exact Kd.R_mono HO_456001.out (fun _ hk => ⟨hk.2,hk.1⟩)) hg hat);have n1_:=Aside0.mk (Kd.R_after (ok:=(fun k_ => some k_ ≠ (u456001 : Value).ownBlock)) (by (with_reducible repeat (first|apply Kd.R_alloc|apply Kd.R_drewN|apply Kd.R_drew));exact Kd.R_mono HO_456002.out (fun _ hk => ⟨hk.2,hk.1⟩)) hg hat);have n2_:=Aside0.mk (blk_grown (g:=gb450) (o:=.cells #[.slice (some ad456) l0_0.length c0_0,.slice A0_1 l0_1.length c0_1,.slice A0_2 l0_2.length c0_2] 25 (0,0)) (blkU BK450.out) hg (Kd.R_ne HO_456000.out BK450.out (by decide)));have n3_:=Aside0.mk (blk_grown (g:=gb451) (o:=.cells #[.slice (some ad457) l1_0.length c1_0,.slice A1_1 l1_1.length c1_1,.slice A1_2 l1_2.length c1_2] 25 (0,0)) (blkU BK451.out) hg (Kd.R_ne HO_456000.out BK451.out (by decide)));have n4_:=Aside0.mk (blk_grown (g:=gb452) (o:=.cells #[.slice none 0 0,.slice none 0 0,.slice none 0 0] 25 (0,0)) (blkU BK452.out) hg (Kd.R_ne HO_456000.out BK452.out (by decide)))
                     have n5_:=Aside0.mk (blk_grown (g:=gb455) (o:=.cells #[u456000,u456001,u456002] 25 (0,0)) (blkU BK455.out) hg (Kd.R_ne HO_456000.out BK455.out (by decide)));have n6_:=Aside0.mk (hb);have n7_:=Aside0.mk (ho);clear HO_456001 HO_456002 BK450 BK451 BK452 BK455 HB HO_456000;have HO_456001:=n0_;have HO_456002:=n1_;have BK450:=n2_;have BK451:=n3_;have BK452:=n4_;have BK455:=n5_;have HB:=n6_;have HO460:=n7_;clear n0_ n1_ n2_ n3_ n4_ n5_ n6_ n7_ ho hb hg hat
                     obtain ⟨Ao64,co64,eo64⟩:=Kd.R_slice HO460.out
                     (first|subst eo64|(injection eo64 with f1_ f2_ f3_;have f4_:=f1_.symm;have f5_:=f3_.symm;clear f1_ f2_ f3_;subst f4_;subst f5_))
                     refine hK.out _ _ ⟨(blk_cell BK455.out 0).trans rfl,(blk_cell BK455.out 1).trans rfl,(blk_cell BK455.out 2).trans rfl,(blk_cell BK450.out 0).trans rfl,(blk_cell BK450.out 1).trans rfl,(blk_cell BK450.out 2).trans rfl,(blk_cell BK451.out 0).trans rfl,(blk_cell BK451.out 1).trans rfl,(blk_cell BK451.out 2).trans rfl,((HB.out.cell (World.block_lt_of_cell? w _ hw456_0)).trans hw456_0),((HB.out.cell (World.block_lt_of_cell? w _ hw457_0)).trans hw457_0)⟩ (fun hHeld => ?_);clear hK K
                     refine norm_ (a':=?_) ?_ ?_;rotate_left
                     ·
                      show Act.put _ (some 61) _ = _
                      simp only [Act.put,List.setIfInBounds_toArray,List.set_cons_zero,List.set_cons_succ,i64_w,i32_w]
                      rfl
                     refine pure_ (i:=17) (N:=some 62) (v:=?_) (a':=?_) #[true,true,true,true,true,true,true,true,true,true,true,true,true,true,true,true,true,true,false] rfl rfl (any_of HT_.out (by kernel_rfl)) (fun _ _ _ h => h) (Or.inl ⟨by rfl,?_⟩) ?_ ?_;rotate_left
                     ·
                      intro w'
                      go_simp
                      with_reducible rfl
                     rotate_left
                     ·
                      simp only [Act.put,List.setIfInBounds_toArray,List.set_cons_zero,List.set_cons_succ,i64_w,i32_w]
                      rfl
                     refine last_ (i:=18) (N:=none) #[true,true,true,true,true,true,true,true,true,true,true,true,true,true,true,true,true,true,true] rfl rfl (one_of HT_.out (by kernel_rfl)) (by decide) (fun K hK => ?_)
                     have hs65 : w63.cell? ⟨gb455,0,none⟩ = some (u456000):=(blk_cell BK455.out 0).trans rfl
                     have hfs65:=blk_frozen BK455.out 0;have hns65_0:=NB450_455.out;have hns65_1:=NB451_455.out;have hns65_2:=NB452_455.out;have hms65_0:=NB455_450.out;have hms65_1:=NB455_451.out;have hms65_2:=NB455_452.out
                     refine skip_ (w1:=?_) (by rfl) rfl ?_ ?_;rotate_left
                     ·
                      go_simp
                      rfl
                     refine hK.out _ _ ?_;clear hK K
                     refine done_ (done_of HT_.out (by kernel_rfl)) ?_
                     try go_wp2
                     have n0_ : Aside0 (Kd.R (Kd.int .i64) 3 (w63.setCell ⟨gb455,0,none⟩ (.slice Ao64 y458.length co64)) w.heap.size (fun k_ => some k_ ≠ (u456002 : Value).ownBlock ∧ some k_ ≠ (.slice Ao64 y458.length co64 : Value).ownBlock) u456001 x456001_3):=⟨by (with_reducible repeat (first|apply Kd.R_alloc|apply Kd.R_drewN|apply Kd.R_drew));exact Kd.R_mono (Kd.R_far (p:=⟨gb455,0,none⟩) (Kd.R_types HO_456001.out BK455.out (by decide)) (fun _ hk => hk.2) (.slice Ao64 y458.length co64)) (fun _ hk => ⟨hk.1.1,hk.1.2⟩)⟩
                     have n1_ : Aside0 (Kd.R (Kd.int .i64) 3 (w63.setCell ⟨gb455,0,none⟩ (.slice Ao64 y458.length co64)) w.heap.size (fun k_ => some k_ ≠ (u456001 : Value).ownBlock ∧ some k_ ≠ (.slice Ao64 y458.length co64 : Value).ownBlock) u456002 x456002_3):=⟨by (with_reducible repeat (first|apply Kd.R_alloc|apply Kd.R_drewN|apply Kd.R_drew));exact Kd.R_mono (Kd.R_far (p:=⟨gb455,0,none⟩) (Kd.R_types HO_456002.out BK455.out (by decide)) (fun _ hk => hk.2) (.slice Ao64 y458.length co64)) (fun _ hk => ⟨hk.1.1,hk.1.2⟩)⟩
                     have n2_ : Aside0 (Kd.R (Kd.int .i64) 3 (w63.setCell ⟨gb455,0,none⟩ (.slice Ao64 y458.length co64)) w.heap.size (fun k_ => some k_ ≠ (u456001 : Value).ownBlock ∧ some k_ ≠ (u456002 : Value).ownBlock) (.slice Ao64 y458.length co64) y458):=⟨by (with_reducible repeat (first|apply Kd.R_alloc|apply Kd.R_drewN|apply Kd.R_drew));exact Kd.R_mono (Kd.R_far (p:=⟨gb455,0,none⟩) (Kd.R_types HO460.out BK455.out (by decide)) (fun _ hk => hk.2) (.slice Ao64 y458.length co64)) (fun _ hk => ⟨hk.1.1,hk.1.2⟩)⟩
                     have n3_ : Aside0 ((w63.setCell ⟨gb455,0,none⟩ (.slice Ao64 y458.length co64)).heap[gb450]? = some (.cells #[.slice (some ad456) l0_0.length c0_0,.slice A0_1 l0_1.length c0_1,.slice A0_2 l0_2.length c0_2] 25 (0,0))):=⟨by (with_reducible repeat (first|refine blk_drewN ?_ _|refine blk_drew ?_|refine blk_alloc ?_ _));refine blk_far ?_ NB450_455.out _;(with_reducible repeat (first|refine blk_drewN ?_ _|refine blk_drew ?_|refine blk_alloc ?_ _));exact BK450.out⟩
                     have n4_ : Aside0 ((w63.setCell ⟨gb455,0,none⟩ (.slice Ao64 y458.length co64)).heap[gb451]? = some (.cells #[.slice (some ad457) l1_0.length c1_0,.slice A1_1 l1_1.length c1_1,.slice A1_2 l1_2.length c1_2] 25 (0,0))):=⟨by (with_reducible repeat (first|refine blk_drewN ?_ _|refine blk_drew ?_|refine blk_alloc ?_ _));refine blk_far ?_ NB451_455.out _;(with_reducible repeat (first|refine blk_drewN ?_ _|refine blk_drew ?_|refine blk_alloc ?_ _));exact BK451.out⟩
                     have n5_ : Aside0 ((w63.setCell ⟨gb455,0,none⟩ (.slice Ao64 y458.length co64)).heap[gb452]? = some (.cells #[.slice none 0 0,.slice none 0 0,.slice none 0 0] 25 (0,0))):=⟨by (with_reducible repeat (first|refine blk_drewN ?_ _|refine blk_drew ?_|refine blk_alloc ?_ _));refine blk_far ?_ NB452_455.out _;(with_reducible repeat (first|refine blk_drewN ?_ _|refine blk_drew ?_|refine blk_alloc ?_ _));exact BK452.out⟩
                     have n6_ : Aside0 ((w63.setCell ⟨gb455,0,none⟩ (.slice Ao64 y458.length co64)).heap[gb455]? = some (.cells #[.slice Ao64 y458.length co64,u456001,u456002] 25 (0,0))):=⟨by (with_reducible repeat (first|refine blk_drewN ?_ _|refine blk_drew ?_|refine blk_alloc ?_ _));refine blk_put (cs:=#[u456000,u456001,u456002]) ?_ 0 _ rfl;(with_reducible repeat (first|refine blk_drewN ?_ _|refine blk_drew ?_|refine blk_alloc ?_ _));exact BK455.out⟩
                     have n7_ : Aside0 (Below w.heap.size w (w63.setCell ⟨gb455,0,none⟩ (.slice Ao64 y458.length co64))):=⟨by repeat (first|(with_reducible first|exact HB.out|apply below_alloc|apply pw_below_drewN|apply below_drew1|refine below_set ?_ GE450.out|refine below_set ?_ GE451.out|refine below_set ?_ GE452.out|refine below_set ?_ GE455.out)|exact HB.out)⟩
                     (try clear HO_456001)
                     (try clear HO_456002)
                     (try clear HO460)
                     (try clear BK450)
                     (try clear BK451)
                     (try clear BK452)
                     (try clear BK455)
                     (try clear HB)
                     generalize (w63.setCell ⟨gb455,0,none⟩ (.slice Ao64 y458.length co64)) = w66 at n0_ n1_ n2_ n3_ n4_ n5_ n6_ n7_ ⊢;have HO_456001:=n0_;have HO_456002:=n1_;have HO460:=n2_;have BK450:=n3_;have BK451:=n4_;have BK452:=n5_;have BK455:=n6_;have HB:=n7_;clear n0_ n1_ n2_ n3_ n4_ n5_ n6_ n7_;have n0_:=Aside0.mk (Kd.R_drew HO_456001.out);have n1_:=Aside0.mk (Kd.R_drew HO_456002.out);have n2_:=Aside0.mk (Kd.R_drew HO460.out);have n3_:=Aside0.mk (blk_drew BK450.out);have n4_:=Aside0.mk (blk_drew BK451.out);have n5_:=Aside0.mk (blk_drew BK452.out);have n6_:=Aside0.mk (blk_drew BK455.out);have n7_:=Aside0.mk (below_drew1 HB.out);clear HO_456001 HO_456002 HO460 BK450 BK451 BK452 BK455 HB;have HO_456001:=n0_;have HO_456002:=n1_;have HO460:=n2_;have BK450:=n3_;have BK451:=n4_;have BK452:=n5_;have BK455:=n6_;have HB:=n7_;clear n0_ n1_ n2_ n3_ n4_ n5_ n6_ n7_
                     have p461 : 0 ≤ (x36_2 : Int):=of_decide_eq_true (by first|(with_reducible assumption)|assumption)
                     have q461 : x36_2 < (l0_1.length : Int):=of_decide_eq_true (by first|(with_reducible assumption)|assumption)
                     obtain ⟨ad461,e461,hx461_0⟩:=Kd.at_int HR0_1.out x36_2 p461 q461;have hw461_0:=hx461_0
                     cases e461
                     replace hx461_0:=(HB.out.cell (World.block_lt_of_cell? w _ hx461_0)).trans hx461_0
                     replace p461:=eq_true p461
                     replace q461:=eq_true q461
                     have p462 : 0 ≤ (x42_3 : Int):=of_decide_eq_true (by first|(with_reducible assumption)|assumption)
                     have q462 : x42_3 < (l1_1.length : Int):=of_decide_eq_true (by first|(with_reducible assumption)|assumption)
                     obtain ⟨ad462,e462,hx462_0⟩:=Kd.at_int HR1_1.out x42_3 p462 q462;have hw462_0:=hx462_0
                     cases e462
                     replace hx462_0:=(HB.out.cell (World.block_lt_of_cell? w _ hx462_0)).trans hx462_0
                     replace p462:=eq_true p462
                     replace q462:=eq_true q462
                     refine start_ (n:=19) (S:=fun w' => w'.cell? ⟨gb455,0,none⟩ = some (.slice Ao64 y458.length co64) ∧ w'.cell? ⟨gb455,1,none⟩ = some (u456001) ∧ w'.cell? ⟨gb455,2,none⟩ = some (u456002) ∧ w'.cell? ⟨gb450,0,none⟩ = some (.slice (some ad456) l0_0.length c0_0) ∧ w'.cell? ⟨gb450,1,none⟩ = some (.slice (some ad461) l0_1.length c0_1) ∧ w'.cell? ⟨gb450,2,none⟩ = some (.slice A0_2 l0_2.length c0_2) ∧ w'.cell? ⟨gb451,0,none⟩ = some (.slice (some ad457) l1_0.length c1_0) ∧ w'.cell? ⟨gb451,1,none⟩ = some (.slice (some ad462) l1_1.length c1_1) ∧ w'.cell? ⟨gb451,2,none⟩ = some (.slice A1_2 l1_2.length c1_2) ∧ w'.cell? (ad461.add (x36_2).toNat) = some (.int .i64 (rd l0_1 x36_2)) ∧ w'.cell? (ad462.add (x42_3).toNat) = some (.int .i64 (rd l1_1 x42_3))) (ds:=[18]) #[false,false,false,false,false,false,false,false,false,false,false,false,false,false,false,false,false,false,false] (by kernel_rfl) rfl rfl ⟨(blk_cell BK455.out 0).trans rfl,(blk_cell BK455.out 1).trans rfl,(blk_cell BK455.out 2).trans rfl,(blk_cell BK450.out 0).trans rfl,(blk_cell BK450.out 1).trans rfl,(blk_cell BK450.out 2).trans rfl,(blk_cell BK451.out 0).trans rfl,(blk_cell BK451.out 1).trans rfl,(blk_cell BK451.out 2).trans rfl,((HB.out.cell (World.block_lt_of_cell? w _ hw461_0)).trans hw461_0),((HB.out.cell (World.block_lt_of_cell? w _ hw462_0)).trans hw462_0)⟩ (fun hHeld => ?_);refine with_tabW impl_MachineBoth.tab12 impl_MachineBoth.bits12 (fun HT_ HW_ => ?_)
                     generalize w66.drew = w67 at HO_456001 HO_456002 HO460 BK450 BK451 BK452 BK455 HB hx461_0 hx462_0 hHeld ⊢
                     refine pure_ (i:=0) (N:=some 63) (v:=?_) (a':=?_) #[true,false,false,false,false,false,false,false,false,false,false,false,false,false,false,false,false,false,false] rfl rfl (any_of HT_.out (by kernel_rfl)) (fun _ _ _ h => h) (Or.inl ⟨by rfl,?_⟩) ?_ ?_;rotate_left
                     ·
                      intro w'
                      go_simp
                      with_reducible rfl
                     rotate_left
                     ·
                      simp only [Act.put,List.setIfInBounds_toArray,List.set_cons_zero,List.set_cons_succ,i64_w,i32_w]
                      rfl
                     refine pure_ (i:=2) (N:=some 65) (v:=?_) (a':=?_) #[true,false,true,false,false,false,false,false,false,false,false,false,false,false,false,false,false,false,false] rfl rfl (any_of HT_.out (by kernel_rfl)) (fun _ _ _ h => h) (Or.inl ⟨by rfl,?_⟩) ?_ ?_;rotate_left
                     ·
                      intro w'
                      go_simp
                      with_reducible rfl
                     rotate_left
                     ·
                      simp only [Act.put,List.setIfInBounds_toArray,List.set_cons_zero,List.set_cons_succ,i64_w,i32_w]
                      rfl
                     refine pure_ (i:=4) (N:=some 67) (v:=?_) (a':=?_) #[true,false,true,false,true,false,false,false,false,false,false,false,false,false,false,false,false,false,false] rfl rfl (any_of HT_.out (by kernel_rfl)) (fun _ _ _ h => h) (Or.inl ⟨by rfl,?_⟩) ?_ ?_;rotate_left
                     ·
                      intro w'
                      go_simp
                      with_reducible rfl
                     rotate_left
                     ·
                      simp only [Act.put,List.setIfInBounds_toArray,List.set_cons_zero,List.set_cons_succ,i64_w,i32_w]
                      rfl
                     refine pure_ (i:=7) (N:=some 70) (v:=?_) (a':=?_) #[true,false,true,false,true,false,false,true,false,false,false,false,false,false,false,false,false,false,false] rfl rfl (any_of HT_.out (by kernel_rfl)) (fun _ _ _ h => h) (Or.inl ⟨by rfl,?_⟩) ?_ ?_;rotate_left
                     ·
                      intro w'
                      go_simp
                      with_reducible rfl
                     rotate_left
                     ·
                      simp only [Act.put,List.setIfInBounds_toArray,List.set_cons_zero,List.set_cons_succ,i64_w,i32_w]
                      rfl
                     refine pure_ (i:=9) (N:=some 72) (v:=?_) (a':=?_) #[true,false,true,false,true,false,false,true,false,true,false,false,false,false,false,false,false,false,false] rfl rfl (any_of HT_.out (by kernel_rfl)) (fun _ _ _ h => h) (Or.inl ⟨by rfl,?_⟩) ?_ ?_;rotate_left
                     ·
                      intro w'
                      go_simp
                      with_reducible rfl
                     rotate_left
                     ·
                      simp only [Act.put,List.setIfInBounds_toArray,List.set_cons_zero,List.set_cons_succ,i64_w,i32_w]
                      rfl
                     refine pure_ (i:=11) (N:=some 74) (v:=?_) (a':=?_) #[true,false,true,false,true,false,false,true,false,true,false,true,false,false,false,false,false,false,false] rfl rfl (any_of HT_.out (by kernel_rfl)) (fun _ _ _ h => h) (Or.inl ⟨by rfl,?_⟩) ?_ ?_;rotate_left
                     ·
                      intro w'
                      go_simp
                      with_reducible rfl
                     rotate_left
                     ·
                      simp only [Act.put,List.setIfInBounds_toArray,List.set_cons_zero,List.set_cons_succ,i64_w,i32_w]
                      rfl
                     refine take_ (i:=1) (N:=some 64) (v:=?_) (a':=?_) #[true,true,true,false,true,false,false,true,false,true,false,true,false,false,false,false,false,false,false] rfl rfl (take_ofW HT_.out HW_.out (by kernel_rfl)) (fun _ _ _ h => h) (Or.inl ⟨by rfl,?_⟩) hHeld ?_ ?_;rotate_left
                     ·
                      rintro w' ⟨s0,s1,s2,s3,s4,s5,s6,s7,s8,s9,s10⟩
                      go_simp
                      with_reducible rfl
                     rotate_left
                     ·
                      simp only [Act.put,List.setIfInBounds_toArray,List.set_cons_zero,List.set_cons_succ,i64_w,i32_w]
                      rfl
                     refine take_ (i:=3) (N:=some 66) (v:=?_) (a':=?_) #[true,true,true,true,true,false,false,true,false,true,false,true,false,false,false,false,false,false,false] rfl rfl (take_ofW HT_.out HW_.out (by kernel_rfl)) (fun _ _ _ h => h) (Or.inl ⟨by rfl,?_⟩) hHeld ?_ ?_;rotate_left
                     ·
                      rintro w' ⟨s0,s1,s2,s3,s4,s5,s6,s7,s8,s9,s10⟩
                      go_simp
                      with_reducible rfl
                     rotate_left
                     ·
                      simp only [Act.put,List.setIfInBounds_toArray,List.set_cons_zero,List.set_cons_succ,i64_w,i32_w]
                      rfl
                     refine pure_ (i:=5) (N:=some 68) (v:=?_) (a':=?_) #[true,true,true,true,true,true,false,true,false,true,false,true,false,false,false,false,false,false,false] rfl rfl (any_of HT_.out (by kernel_rfl)) (fun _ _ _ h => h) (Or.inl ⟨by rfl,?_⟩) ?_ ?_;rotate_left
                     ·
                      intro w'
                      go_simp
                      with_reducible rfl
                     rotate_left
                     ·
                      simp only [Act.put,List.setIfInBounds_toArray,List.set_cons_zero,List.set_cons_succ,i64_w,i32_w]
                      rfl
                     refine take_ (i:=6) (N:=some 69) (v:=?_) (a':=?_) #[true,true,true,true,true,true,true,true,false,true,false,true,false,false,false,false,false,false,false] rfl rfl (take_ofW HT_.out HW_.out (by kernel_rfl)) (fun _ _ _ h => h) (Or.inl ⟨by rfl,?_⟩) hHeld ?_ ?_;rotate_left
                     ·
                      rintro w' ⟨s0,s1,s2,s3,s4,s5,s6,s7,s8,s9,s10⟩
                      go_simp
                      with_reducible rfl
                     rotate_left
                     ·
                      simp only [Act.put,List.setIfInBounds_toArray,List.set_cons_zero,List.set_cons_succ,i64_w,i32_w]
                      rfl
                     refine pure_ (i:=8) (N:=some 71) (v:=?_) (a':=?_) #[true,true,true,true,true,true,true,true,true,true,false,true,false,false,false,false,false,false,false] rfl rfl (any_of HT_.out (by kernel_rfl)) (fun _ _ _ h => h) (Or.inl ⟨by rfl,?_⟩) ?_ ?_;rotate_left
                     ·
                      intro w'
                      go_simp
                      with_reducible rfl
                     rotate_left
                     ·
                      simp only [Act.put,List.setIfInBounds_toArray,List.set_cons_zero,List.set_cons_succ,i64_w,i32_w]
                      rfl
                     refine take_ (i:=10) (N:=some 73) (v:=?_) (a':=?_) #[true,true,true,true,true,true,true,true,true,true,true,true,false,false,false,false,false,false,false] rfl rfl (take_ofW HT_.out HW_.out (by kernel_rfl)) (fun _ _ _ h => h) (Or.inl ⟨by rfl,?_⟩) hHeld ?_ ?_;rotate_left
                     ·
                      rintro w' ⟨s0,s1,s2,s3,s4,s5,s6,s7,s8,s9,s10⟩
                      go_simp
                      with_reducible rfl
                     rotate_left
                     ·
                      simp only [Act.put,List.setIfInBounds_toArray,List.set_cons_zero,List.set_cons_succ,i64_w,i32_w]
                      rfl
                     refine pure_ (i:=12) (N:=some 75) (v:=?_) (a':=?_) #[true,true,true,true,true,true,true,true,true,true,true,true,true,false,false,false,false,false,false] rfl rfl (any_of HT_.out (by kernel_rfl)) (fun _ _ _ h => h) (Or.inl ⟨by rfl,?_⟩) ?_ ?_;rotate_left
                     ·
                      intro w'
                      go_simp
                      with_reducible rfl
                     rotate_left
                     ·
                      simp only [Act.put,List.setIfInBounds_toArray,List.set_cons_zero,List.set_cons_succ,i64_w,i32_w]
                      rfl
                     refine take_ (i:=13) (N:=some 76) (v:=?_) (a':=?_) #[true,true,true,true,true,true,true,true,true,true,true,true,true,true,false,false,false,false,false] rfl rfl (take_ofW HT_.out HW_.out (by kernel_rfl)) (fun _ _ _ h => h) (Or.inl ⟨by rfl,?_⟩) hHeld ?_ ?_;rotate_left
                     ·
                      rintro w' ⟨s0,s1,s2,s3,s4,s5,s6,s7,s8,s9,s10⟩
                      go_simp
                      with_reducible rfl
                     rotate_left
                     ·
                      simp only [Act.put,List.setIfInBounds_toArray,List.set_cons_zero,List.set_cons_succ,i64_w,i32_w]
                      rfl
                     refine pure_ (i:=14) (N:=some 77) (v:=?_) (a':=?_) #[true,true,true,true,true,true,true,true,true,true,true,true,true,true,true,false,false,false,false] rfl rfl (any_of HT_.out (by kernel_rfl)) (fun _ _ _ h => h) (Or.inl ⟨by rfl,?_⟩) ?_ ?_;rotate_left
                     ·
                      intro w'
                      go_simp
                      with_reducible rfl
                     rotate_left
                     ·
                      simp only [Act.put,List.setIfInBounds_toArray,List.set_cons_zero,List.set_cons_succ,i64_w,i32_w]
                      rfl
                     refine one_ (i:=15) (N:=some 78) #[true,true,true,true,true,true,true,true,true,true,true,true,true,true,true,true,false,false,false] rfl rfl (one_of HT_.out (by kernel_rfl)) (by decide) (fun K hK => ?_)
                     refine value_ (w1:=?_) (v:=?_) (by rfl) rfl ?_ ?_
                     rotate_left 2
                     ·
                      go_simp
                      constructor
                      ·
                       rfl
                      ·
                       rfl
                     refine hK.out _ _ ⟨(blk_cell (blk_alloc BK455.out _) 0).trans rfl,(blk_cell (blk_alloc BK455.out _) 1).trans rfl,(blk_cell (blk_alloc BK455.out _) 2).trans rfl,(blk_cell (blk_alloc BK450.out _) 0).trans rfl,(blk_cell (blk_alloc BK450.out _) 1).trans rfl,(blk_cell (blk_alloc BK450.out _) 2).trans rfl,(blk_cell (blk_alloc BK451.out _) 0).trans rfl,(blk_cell (blk_alloc BK451.out _) 1).trans rfl,(blk_cell (blk_alloc BK451.out _) 2).trans rfl,(World.cell?_alloc_lt _ _ _ (World.block_lt_of_cell? _ _ (((HB.out.cell (World.block_lt_of_cell? w _ hw461_0)).trans hw461_0)))).trans (((HB.out.cell (World.block_lt_of_cell? w _ hw461_0)).trans hw461_0)),(World.cell?_alloc_lt _ _ _ (World.block_lt_of_cell? _ _ (((HB.out.cell (World.block_lt_of_cell? w _ hw462_0)).trans hw462_0)))).trans (((HB.out.cell (World.block_lt_of_cell? w _ hw462_0)).trans hw462_0))⟩ (fun hHeld => ?_);clear hK K
                     refine norm_ (a':=?_) ?_ ?_;rotate_left
                     ·
                      show Act.put _ (some 78) _ = _
                      simp only [Act.put,List.setIfInBounds_toArray,List.set_cons_zero,List.set_cons_succ,i64_w,i32_w]
                      rfl
                     refine one_ (i:=16) (N:=some 79) #[true,true,true,true,true,true,true,true,true,true,true,true,true,true,true,true,true,false,false] rfl rfl (one_of HT_.out (by kernel_rfl)) (by decide) (fun K hK => ?_)
                     refine Kd.R_append_step (Kd.int .i64) (w0:=w) w.heap.size (by rfl) (.tmp 64) (.tmp 78) 23 3 (.int .i64 0) 8 rfl Tryd.underlying23 info3 rfl (by decide) (by omega) u456001 x456001_3 (wrap64 ((wrap64 ((rd l0_1 x36_2) * (l1_2.length : Int))) + (rd l1_1 x42_3))) [.int .i64 (wrap64 ((wrap64 ((rd l0_1 x36_2) * (l1_2.length : Int))) + (rd l1_1 x42_3)))] (fun k_ => some k_ ≠ (u456002 : Value).ownBlock ∧ some k_ ≠ (.slice Ao64 y458.length co64 : Value).ownBlock) (fun _ => False) rfl rfl ?aP (fun _ hk => hk.elim) ?aF ?aO ?aB ?aS ?aL ?_
                     (case aP => exact rfl)
                     (case aB => exact (by repeat (first|(with_reducible first|exact HB.out|apply below_alloc|apply pw_below_drewN|apply below_drew1|refine below_set ?_ GE450.out|refine below_set ?_ GE451.out|refine below_set ?_ GE452.out|refine below_set ?_ GE455.out)|exact HB.out)))
                     (case aF => exact (fun k_ hk => ⟨Kd.fresh' (Kd.R_lt (rU HO_456002.out)) k_ hk,Kd.fresh' (Kd.R_lt (rU HO460.out)) k_ hk⟩))
                     (case aO => exact (rU HO_456001.out))
                     (case aS => exact (below_size (by repeat (first|(with_reducible first|exact HB.out|apply below_alloc|apply pw_below_drewN|apply below_drew1|refine below_set ?_ GE450.out|refine below_set ?_ GE451.out|refine below_set ?_ GE452.out|refine below_set ?_ GE455.out)|exact HB.out))))
                     (case aL => have:=LMc58.out;omega);intro v464 w68 ho hb hg hat
                     rw [← Ny463.out] at ho;have n0_:=Aside0.mk (Kd.R_after (ok:=(fun k_ => some k_ ≠ (.slice Ao64 y458.length co64 : Value).ownBlock)) (by (with_reducible repeat (first|apply Kd.R_alloc|apply Kd.R_drewN|apply Kd.R_drew));exact Kd.R_mono HO_456002.out (fun _ hk => ⟨hk.2,hk.1⟩)) hg hat);have n1_:=Aside0.mk (blk_grown (g:=gb450) (o:=.cells #[.slice (some ad456) l0_0.length c0_0,.slice (some ad461) l0_1.length c0_1,.slice A0_2 l0_2.length c0_2] 25 (0,0)) (blkU BK450.out) hg (Kd.R_ne HO_456001.out BK450.out (by decide)));have n2_:=Aside0.mk (blk_grown (g:=gb451) (o:=.cells #[.slice (some ad457) l1_0.length c1_0,.slice (some ad462) l1_1.length c1_1,.slice A1_2 l1_2.length c1_2] 25 (0,0)) (blkU BK451.out) hg (Kd.R_ne HO_456001.out BK451.out (by decide)));have n3_:=Aside0.mk (blk_grown (g:=gb452) (o:=.cells #[.slice none 0 0,.slice none 0 0,.slice none 0 0] 25 (0,0)) (blkU BK452.out) hg (Kd.R_ne HO_456001.out BK452.out (by decide)));have n4_:=Aside0.mk (blk_grown (g:=gb455) (o:=.cells #[.slice Ao64 y458.length co64,u456001,u456002] 25 (0,0)) (blkU BK455.out) hg (Kd.R_ne HO_456001.out BK455.out (by decide)))
                     have n5_:=Aside0.mk (Kd.R_after (ok:=(fun k_ => some k_ ≠ (u456002 : Value).ownBlock)) (by (with_reducible repeat (first|apply Kd.R_alloc|apply Kd.R_drewN|apply Kd.R_drew));exact Kd.R_mono HO460.out (fun _ hk => ⟨hk.2,hk.1⟩)) hg hat);have n6_:=Aside0.mk (hb);have n7_:=Aside0.mk (ho);clear HO_456002 BK450 BK451 BK452 BK455 HO460 HB HO_456001;have HO_456002:=n0_;have BK450:=n1_;have BK451:=n2_;have BK452:=n3_;have BK455:=n4_;have HO460:=n5_;have HB:=n6_;have HO465:=n7_;clear n0_ n1_ n2_ n3_ n4_ n5_ n6_ n7_ ho hb hg hat
                     obtain ⟨Ao69,co69,eo69⟩:=Kd.R_slice HO465.out
                     (first|subst eo69|(injection eo69 with f1_ f2_ f3_;have f4_:=f1_.symm;have f5_:=f3_.symm;clear f1_ f2_ f3_;subst f4_;subst f5_))
                     refine hK.out _ _ ⟨(blk_cell BK455.out 0).trans rfl,(blk_cell BK455.out 1).trans rfl,(blk_cell BK455.out 2).trans rfl,(blk_cell BK450.out 0).trans rfl,(blk_cell BK450.out 1).trans rfl,(blk_cell BK450.out 2).trans rfl,(blk_cell BK451.out 0).trans rfl,(blk_cell BK451.out 1).trans rfl,(blk_cell BK451.out 2).trans rfl,((HB.out.cell (World.block_lt_of_cell? w _ hw461_0)).trans hw461_0),((HB.out.cell (World.block_lt_of_cell? w _ hw462_0)).trans hw462_0)⟩ (fun hHeld => ?_);clear hK K
                     refine norm_ (a':=?_) ?_ ?_;rotate_left
                     ·
                      show Act.put _ (some 79) _ = _
                      simp only [Act.put,List.setIfInBounds_toArray,List.set_cons_zero,List.set_cons_succ,i64_w,i32_w]
                      rfl
                     refine pure_ (i:=17) (N:=some 80) (v:=?_) (a':=?_) #[true,true,true,true,true,true,true,true,true,true,true,true,true,true,true,true,true,true,false] rfl rfl (any_of HT_.out (by kernel_rfl)) (fun _ _ _ h => h) (Or.inl ⟨by rfl,?_⟩) ?_ ?_;rotate_left
                     ·
                      intro w'
                      go_simp
                      with_reducible rfl
                     rotate_left
                     ·
                      simp only [Act.put,List.setIfInBounds_toArray,List.set_cons_zero,List.set_cons_succ,i64_w,i32_w]
                      rfl
                     refine last_ (i:=18) (N:=none) #[true,true,true,true,true,true,true,true,true,true,true,true,true,true,true,true,true,true,true] rfl rfl (one_of HT_.out (by kernel_rfl)) (by decide) (fun K hK => ?_)
                     have hs70 : w68.cell? ⟨gb455,1,none⟩ = some (u456001):=(blk_cell BK455.out 1).trans rfl
                     have hfs70:=blk_frozen BK455.out 1;have hns70_0:=NB450_455.out;have hns70_1:=NB451_455.out;have hns70_2:=NB452_455.out;have hms70_0:=NB455_450.out;have hms70_1:=NB455_451.out;have hms70_2:=NB455_452.out
                     refine skip_ (w1:=?_) (by rfl) rfl ?_ ?_;rotate_left
                     ·
                      go_simp
                      rfl
                     refine hK.out _ _ ?_;clear hK K
                     refine done_ (done_of HT_.out (by kernel_rfl)) ?_
                     try go_wp2
                     have n0_ : Aside0 (Kd.R (Kd.int .i64) 3 (w68.setCell ⟨gb455,1,none⟩ (.slice Ao69 y463.length co69)) w.heap.size (fun k_ => some k_ ≠ (.slice Ao64 y458.length co64 : Value).ownBlock ∧ some k_ ≠ (.slice Ao69 y463.length co69 : Value).ownBlock) u456002 x456002_3):=⟨by (with_reducible repeat (first|apply Kd.R_alloc|apply Kd.R_drewN|apply Kd.R_drew));exact Kd.R_mono (Kd.R_far (p:=⟨gb455,1,none⟩) (Kd.R_types HO_456002.out BK455.out (by decide)) (fun _ hk => hk.2) (.slice Ao69 y463.length co69)) (fun _ hk => ⟨hk.1.1,hk.1.2⟩)⟩
                     have n1_ : Aside0 (Kd.R (Kd.int .i64) 3 (w68.setCell ⟨gb455,1,none⟩ (.slice Ao69 y463.length co69)) w.heap.size (fun k_ => some k_ ≠ (u456002 : Value).ownBlock ∧ some k_ ≠ (.slice Ao69 y463.length co69 : Value).ownBlock) (.slice Ao64 y458.length co64) y458):=⟨by (with_reducible repeat (first|apply Kd.R_alloc|apply Kd.R_drewN|apply Kd.R_drew));exact Kd.R_mono (Kd.R_far (p:=⟨gb455,1,none⟩) (Kd.R_types HO460.out BK455.out (by decide)) (fun _ hk => hk.2) (.slice Ao69 y463.length co69)) (fun _ hk => ⟨hk.1.1,hk.1.2⟩)⟩
                     have n2_ : Aside0 (Kd.R (Kd.int .i64) 3 (w68.setCell ⟨gb455,1,none⟩ (.slice Ao69 y463.length co69)) w.heap.size (fun k_ => some k_ ≠ (u456002 : Value).ownBlock ∧ some k_ ≠ (.slice Ao64 y458.length co64 : Value).ownBlock) (.slice Ao69 y463.length co69) y463):=⟨by (with_reducible repeat (first|apply Kd.R_alloc|apply Kd.R_drewN|apply Kd.R_drew));exact Kd.R_mono (Kd.R_far (p:=⟨gb455,1,none⟩) (Kd.R_types HO465.out BK455.out (by decide)) (fun _ hk => hk.2) (.slice Ao69 y463.length co69)) (fun _ hk => ⟨hk.1.1,hk.1.2⟩)⟩
                     have n3_ : Aside0 ((w68.setCell ⟨gb455,1,none⟩ (.slice Ao69 y463.length co69)).heap[gb450]? = some (.cells #[.slice (some ad456) l0_0.length c0_0,.slice (some ad461) l0_1.length c0_1,.slice A0_2 l0_2.length c0_2] 25 (0,0))):=⟨by (with_reducible repeat (first|refine blk_drewN ?_ _|refine blk_drew ?_|refine blk_alloc ?_ _));refine blk_far ?_ NB450_455.out _;(with_reducible repeat (first|refine blk_drewN ?_ _|refine blk_drew ?_|refine blk_alloc ?_ _));exact BK450.out⟩
                     have n4_ : Aside0 ((w68.setCell ⟨gb455,1,none⟩ (.slice Ao69 y463.length co69)).heap[gb451]? = some (.cells #[.slice (some ad457) l1_0.length c1_0,.slice (some ad462) l1_1.length c1_1,.slice A1_2 l1_2.length c1_2] 25 (0,0))):=⟨by (with_reducible repeat (first|refine blk_drewN ?_ _|refine blk_drew ?_|refine blk_alloc ?_ _));refine blk_far ?_ NB451_455.out _;(with_reducible repeat (first|refine blk_drewN ?_ _|refine blk_drew ?_|refine blk_alloc ?_ _));exact BK451.out⟩
                     have n5_ : Aside0 ((w68.setCell ⟨gb455,1,none⟩ (.slice Ao69 y463.length co69)).heap[gb452]? = some (.cells #[.slice none 0 0,.slice none 0 0,.slice none 0 0] 25 (0,0))):=⟨by (with_reducible repeat (first|refine blk_drewN ?_ _|refine blk_drew ?_|refine blk_alloc ?_ _));refine blk_far ?_ NB452_455.out _;(with_reducible repeat (first|refine blk_drewN ?_ _|refine blk_drew ?_|refine blk_alloc ?_ _));exact BK452.out⟩
                     have n6_ : Aside0 ((w68.setCell ⟨gb455,1,none⟩ (.slice Ao69 y463.length co69)).heap[gb455]? = some (.cells #[.slice Ao64 y458.length co64,.slice Ao69 y463.length co69,u456002] 25 (0,0))):=⟨by (with_reducible repeat (first|refine blk_drewN ?_ _|refine blk_drew ?_|refine blk_alloc ?_ _));refine blk_put (cs:=#[.slice Ao64 y458.length co64,u456001,u456002]) ?_ 1 _ rfl;(with_reducible repeat (first|refine blk_drewN ?_ _|refine blk_drew ?_|refine blk_alloc ?_ _));exact BK455.out⟩
                     have n7_ : Aside0 (Below w.heap.size w (w68.setCell ⟨gb455,1,none⟩ (.slice Ao69 y463.length co69))):=⟨by repeat (first|(with_reducible first|exact HB.out|apply below_alloc|apply pw_below_drewN|apply below_drew1|refine below_set ?_ GE450.out|refine below_set ?_ GE451.out|refine below_set ?_ GE452.out|refine below_set ?_ GE455.out)|exact HB.out)⟩
                     (try clear HO_456002)
                     (try clear HO460)
                     (try clear HO465)
                     (try clear BK450)
                     (try clear BK451)
                     (try clear BK452)
                     (try clear BK455)
                     (try clear HB)
                     generalize (w68.setCell ⟨gb455,1,none⟩ (.slice Ao69 y463.length co69)) = w71 at n0_ n1_ n2_ n3_ n4_ n5_ n6_ n7_ ⊢;have HO_456002:=n0_;have HO460:=n1_;have HO465:=n2_;have BK450:=n3_;have BK451:=n4_;have BK452:=n5_;have BK455:=n6_;have HB:=n7_;clear n0_ n1_ n2_ n3_ n4_ n5_ n6_ n7_;have n0_:=Aside0.mk (Kd.R_drew HO_456002.out);have n1_:=Aside0.mk (Kd.R_drew HO460.out);have n2_:=Aside0.mk (Kd.R_drew HO465.out);have n3_:=Aside0.mk (blk_drew BK450.out);have n4_:=Aside0.mk (blk_drew BK451.out);have n5_:=Aside0.mk (blk_drew BK452.out);have n6_:=Aside0.mk (blk_drew BK455.out);have n7_:=Aside0.mk (below_drew1 HB.out);clear HO_456002 HO460 HO465 BK450 BK451 BK452 BK455 HB;have HO_456002:=n0_;have HO460:=n1_;have HO465:=n2_;have BK450:=n3_;have BK451:=n4_;have BK452:=n5_;have BK455:=n6_;have HB:=n7_;clear n0_ n1_ n2_ n3_ n4_ n5_ n6_ n7_
                     have p466 : 0 ≤ (x36_2 : Int):=of_decide_eq_true (by first|(with_reducible assumption)|assumption)
                     have q466 : x36_2 < (l0_2.length : Int):=of_decide_eq_true (by first|(with_reducible assumption)|assumption)
                     obtain ⟨ad466,e466,hx466_0⟩:=Kd.at_int HR0_2.out x36_2 p466 q466;have hw466_0:=hx466_0
                     cases e466
                     replace hx466_0:=(HB.out.cell (World.block_lt_of_cell? w _ hx466_0)).trans hx466_0
                     replace p466:=eq_true p466
                     replace q466:=eq_true q466
                     have p467 : 0 ≤ (x42_3 : Int):=of_decide_eq_true (by first|(with_reducible assumption)|assumption)
                     have q467 : x42_3 < (l1_2.length : Int):=of_decide_eq_true (by first|(with_reducible assumption)|assumption)
                     obtain ⟨ad467,e467,hx467_0⟩:=Kd.at_int HR1_2.out x42_3 p467 q467;have hw467_0:=hx467_0
                     cases e467
                     replace hx467_0:=(HB.out.cell (World.block_lt_of_cell? w _ hx467_0)).trans hx467_0
                     replace p467:=eq_true p467
                     replace q467:=eq_true q467
                     refine start_ (n:=17) (S:=fun w' => w'.cell? ⟨gb455,0,none⟩ = some (.slice Ao64 y458.length co64) ∧ w'.cell? ⟨gb455,1,none⟩ = some (.slice Ao69 y463.length co69) ∧ w'.cell? ⟨gb455,2,none⟩ = some (u456002) ∧ w'.cell? ⟨gb450,0,none⟩ = some (.slice (some ad456) l0_0.length c0_0) ∧ w'.cell? ⟨gb450,1,none⟩ = some (.slice (some ad461) l0_1.length c0_1) ∧ w'.cell? ⟨gb450,2,none⟩ = some (.slice (some ad466) l0_2.length c0_2) ∧ w'.cell? ⟨gb451,0,none⟩ = some (.slice (some ad457) l1_0.length c1_0) ∧ w'.cell? ⟨gb451,1,none⟩ = some (.slice (some ad462) l1_1.length c1_1) ∧ w'.cell? ⟨gb451,2,none⟩ = some (.slice (some ad467) l1_2.length c1_2) ∧ w'.cell? (ad466.add (x36_2).toNat) = some (.int .i64 (rd l0_2 x36_2)) ∧ w'.cell? (ad467.add (x42_3).toNat) = some (.int .i64 (rd l1_2 x42_3))) (ds:=[16]) #[false,false,false,false,false,false,false,false,false,false,false,false,false,false,false,false,false] (by kernel_rfl) rfl rfl ⟨(blk_cell BK455.out 0).trans rfl,(blk_cell BK455.out 1).trans rfl,(blk_cell BK455.out 2).trans rfl,(blk_cell BK450.out 0).trans rfl,(blk_cell BK450.out 1).trans rfl,(blk_cell BK450.out 2).trans rfl,(blk_cell BK451.out 0).trans rfl,(blk_cell BK451.out 1).trans rfl,(blk_cell BK451.out 2).trans rfl,((HB.out.cell (World.block_lt_of_cell? w _ hw466_0)).trans hw466_0),((HB.out.cell (World.block_lt_of_cell? w _ hw467_0)).trans hw467_0)⟩ (fun hHeld => ?_);refine with_tabW impl_MachineBoth.tab13 impl_MachineBoth.bits13 (fun HT_ HW_ => ?_)
                     generalize w71.drew = w72 at HO_456002 HO460 HO465 BK450 BK451 BK452 BK455 HB hx466_0 hx467_0 hHeld ⊢
                     refine pure_ (i:=0) (N:=some 81) (v:=?_) (a':=?_) #[true,false,false,false,false,false,false,false,false,false,false,false,false,false,false,false,false] rfl rfl (any_of HT_.out (by kernel_rfl)) (fun _ _ _ h => h) (Or.inl ⟨by rfl,?_⟩) ?_ ?_;rotate_left
                     ·
                      intro w'
                      go_simp
                      with_reducible rfl
                     rotate_left
                     ·
                      simp only [Act.put,List.setIfInBounds_toArray,List.set_cons_zero,List.set_cons_succ,i64_w,i32_w]
                      rfl
                     refine pure_ (i:=2) (N:=some 83) (v:=?_) (a':=?_) #[true,false,true,false,false,false,false,false,false,false,false,false,false,false,false,false,false] rfl rfl (any_of HT_.out (by kernel_rfl)) (fun _ _ _ h => h) (Or.inl ⟨by rfl,?_⟩) ?_ ?_;rotate_left
                     ·
                      intro w'
                      go_simp
                      with_reducible rfl
                     rotate_left
                     ·
                      simp only [Act.put,List.setIfInBounds_toArray,List.set_cons_zero,List.set_cons_succ,i64_w,i32_w]
                      rfl
                     refine pure_ (i:=4) (N:=some 85) (v:=?_) (a':=?_) #[true,false,true,false,true,false,false,false,false,false,false,false,false,false,false,false,false] rfl rfl (any_of HT_.out (by kernel_rfl)) (fun _ _ _ h => h) (Or.inl ⟨by rfl,?_⟩) ?_ ?_;rotate_left
                     ·
                      intro w'
                      go_simp
                      with_reducible rfl
                     rotate_left
                     ·
                      simp only [Act.put,List.setIfInBounds_toArray,List.set_cons_zero,List.set_cons_succ,i64_w,i32_w]
                      rfl
                     refine pure_ (i:=7) (N:=some 88) (v:=?_) (a':=?_) #[true,false,true,false,true,false,false,true,false,false,false,false,false,false,false,false,false] rfl rfl (any_of HT_.out (by kernel_rfl)) (fun _ _ _ h => h) (Or.inl ⟨by rfl,?_⟩) ?_ ?_;rotate_left
                     ·
                      intro w'
                      go_simp
                      with_reducible rfl
                     rotate_left
                     ·
                      simp only [Act.put,List.setIfInBounds_toArray,List.set_cons_zero,List.set_cons_succ,i64_w,i32_w]
                      rfl
                     refine pure_ (i:=9) (N:=some 90) (v:=?_) (a':=?_) #[true,false,true,false,true,false,false,true,false,true,false,false,false,false,false,false,false] rfl rfl (any_of HT_.out (by kernel_rfl)) (fun _ _ _ h => h) (Or.inl ⟨by rfl,?_⟩) ?_ ?_;rotate_left
                     ·
                      intro w'
                      go_simp
                      with_reducible rfl
                     rotate_left
                     ·
                      simp only [Act.put,List.setIfInBounds_toArray,List.set_cons_zero,List.set_cons_succ,i64_w,i32_w]
                      rfl
                     refine take_ (i:=1) (N:=some 82) (v:=?_) (a':=?_) #[true,true,true,false,true,false,false,true,false,true,false,false,false,false,false,false,false] rfl rfl (take_ofW HT_.out HW_.out (by kernel_rfl)) (fun _ _ _ h => h) (Or.inl ⟨by rfl,?_⟩) hHeld ?_ ?_;rotate_left
                     ·
                      rintro w' ⟨s0,s1,s2,s3,s4,s5,s6,s7,s8,s9,s10⟩
                      go_simp
                      with_reducible rfl
                     rotate_left
                     ·
                      simp only [Act.put,List.setIfInBounds_toArray,List.set_cons_zero,List.set_cons_succ,i64_w,i32_w]
                      rfl
                     refine take_ (i:=3) (N:=some 84) (v:=?_) (a':=?_) #[true,true,true,true,true,false,false,true,false,true,false,false,false,false,false,false,false] rfl rfl (take_ofW HT_.out HW_.out (by kernel_rfl)) (fun _ _ _ h => h) (Or.inl ⟨by rfl,?_⟩) hHeld ?_ ?_;rotate_left
                     ·
                      rintro w' ⟨s0,s1,s2,s3,s4,s5,s6,s7,s8,s9,s10⟩
                      go_simp
                      with_reducible rfl
                     rotate_left
                     ·
                      simp only [Act.put,List.setIfInBounds_toArray,List.set_cons_zero,List.set_cons_succ,i64_w,i32_w]
                      rfl
                     refine pure_ (i:=5) (N:=some 86) (v:=?_) (a':=?_) #[true,true,true,true,true,true,false,true,false,true,false,false,false,false,false,false,false] rfl rfl (any_of HT_.out (by kernel_rfl)) (fun _ _ _ h => h) (Or.inl ⟨by rfl,?_⟩) ?_ ?_;rotate_left
                     ·
                      intro w'
                      go_simp
                      with_reducible rfl
                     rotate_left
                     ·
                      simp only [Act.put,List.setIfInBounds_toArray,List.set_cons_zero,List.set_cons_succ,i64_w,i32_w]
                      rfl
                     refine take_ (i:=6) (N:=some 87) (v:=?_) (a':=?_) #[true,true,true,true,true,true,true,true,false,true,false,false,false,false,false,false,false] rfl rfl (take_ofW HT_.out HW_.out (by kernel_rfl)) (fun _ _ _ h => h) (Or.inl ⟨by rfl,?_⟩) hHeld ?_ ?_;rotate_left
                     ·
                      rintro w' ⟨s0,s1,s2,s3,s4,s5,s6,s7,s8,s9,s10⟩
                      go_simp
                      with_reducible rfl
                     rotate_left
                     ·
                      simp only [Act.put,List.setIfInBounds_toArray,List.set_cons_zero,List.set_cons_succ,i64_w,i32_w]
                      rfl
                     refine take_ (i:=8) (N:=some 89) (v:=?_) (a':=?_) #[true,true,true,true,true,true,true,true,true,true,false,false,false,false,false,false,false] rfl rfl (take_ofW HT_.out HW_.out (by kernel_rfl)) (fun _ _ _ h => h) (Or.inl ⟨by rfl,?_⟩) hHeld ?_ ?_;rotate_left
                     ·
                      rintro w' ⟨s0,s1,s2,s3,s4,s5,s6,s7,s8,s9,s10⟩
                      go_simp
                      with_reducible rfl
                     rotate_left
                     ·
                      simp only [Act.put,List.setIfInBounds_toArray,List.set_cons_zero,List.set_cons_succ,i64_w,i32_w]
                      rfl
                     refine pure_ (i:=10) (N:=some 91) (v:=?_) (a':=?_) #[true,true,true,true,true,true,true,true,true,true,true,false,false,false,false,false,false] rfl rfl (any_of HT_.out (by kernel_rfl)) (fun _ _ _ h => h) (Or.inl ⟨by rfl,?_⟩) ?_ ?_;rotate_left
                     ·
                      intro w'
                      go_simp
                      with_reducible rfl
                     rotate_left
                     ·
                      simp only [Act.put,List.setIfInBounds_toArray,List.set_cons_zero,List.set_cons_succ,i64_w,i32_w]
                      rfl
                     refine take_ (i:=11) (N:=some 92) (v:=?_) (a':=?_) #[true,true,true,true,true,true,true,true,true,true,true,true,false,false,false,false,false] rfl rfl (take_ofW HT_.out HW_.out (by kernel_rfl)) (fun _ _ _ h => h) (Or.inl ⟨by rfl,?_⟩) hHeld ?_ ?_;rotate_left
                     ·
                      rintro w' ⟨s0,s1,s2,s3,s4,s5,s6,s7,s8,s9,s10⟩
                      go_simp
                      with_reducible rfl
                     rotate_left
                     ·
                      simp only [Act.put,List.setIfInBounds_toArray,List.set_cons_zero,List.set_cons_succ,i64_w,i32_w]
                      rfl
                     refine pure_ (i:=12) (N:=some 93) (v:=?_) (a':=?_) #[true,true,true,true,true,true,true,true,true,true,true,true,true,false,false,false,false] rfl rfl (any_of HT_.out (by kernel_rfl)) (fun _ _ _ h => h) (Or.inl ⟨by rfl,?_⟩) ?_ ?_;rotate_left
                     ·
                      intro w'
                      go_simp
                      with_reducible rfl
                     rotate_left
                     ·
                      simp only [Act.put,List.setIfInBounds_toArray,List.set_cons_zero,List.set_cons_succ,i64_w,i32_w]
                      rfl
                     refine one_ (i:=13) (N:=some 94) #[true,true,true,true,true,true,true,true,true,true,true,true,true,true,false,false,false] rfl rfl (one_of HT_.out (by kernel_rfl)) (by decide) (fun K hK => ?_)
                     refine value_ (w1:=?_) (v:=?_) (by rfl) rfl ?_ ?_
                     rotate_left 2
                     ·
                      go_simp
                      constructor
                      ·
                       rfl
                      ·
                       rfl
                     refine hK.out _ _ ⟨(blk_cell (blk_alloc BK455.out _) 0).trans rfl,(blk_cell (blk_alloc BK455.out _) 1).trans rfl,(blk_cell (blk_alloc BK455.out _) 2).trans rfl,(blk_cell (blk_alloc BK450.out _) 0).trans rfl,(blk_cell (blk_alloc BK450.out _) 1).trans rfl,(blk_cell (blk_alloc BK450.out _) 2).trans rfl,(blk_cell (blk_alloc BK451.out _) 0).trans rfl,(blk_cell (blk_alloc BK451.out _) 1).trans rfl,(blk_cell (blk_alloc BK451.out _) 2).trans rfl,(World.cell?_alloc_lt _ _ _ (World.block_lt_of_cell? _ _ (((HB.out.cell (World.block_lt_of_cell? w _ hw466_0)).trans hw466_0)))).trans (((HB.out.cell (World.block_lt_of_cell? w _ hw466_0)).trans hw466_0)),(World.cell?_alloc_lt _ _ _ (World.block_lt_of_cell? _ _ (((HB.out.cell (World.block_lt_of_cell? w _ hw467_0)).trans hw467_0)))).trans (((HB.out.cell (World.block_lt_of_cell? w _ hw467_0)).trans hw467_0))⟩ (fun hHeld => ?_);clear hK K
                     refine norm_ (a':=?_) ?_ ?_;rotate_left
                     ·
                      show Act.put _ (some 94) _ = _
                      simp only [Act.put,List.setIfInBounds_toArray,List.set_cons_zero,List.set_cons_succ,i64_w,i32_w]
                      rfl
                     refine one_ (i:=14) (N:=some 95) #[true,true,true,true,true,true,true,true,true,true,true,true,true,true,true,false,false] rfl rfl (one_of HT_.out (by kernel_rfl)) (by decide) (fun K hK => ?_)
                     refine Kd.R_append_step (Kd.int .i64) (w0:=w) w.heap.size (by rfl) (.tmp 82) (.tmp 94) 23 3 (.int .i64 0) 8 rfl Tryd.underlying23 info3 rfl (by decide) (by omega) u456002 x456002_3 (wrap64 ((rd l0_2 x36_2) * (rd l1_2 x42_3))) [.int .i64 (wrap64 ((rd l0_2 x36_2) * (rd l1_2 x42_3)))] (fun k_ => some k_ ≠ (.slice Ao64 y458.length co64 : Value).ownBlock ∧ some k_ ≠ (.slice Ao69 y463.length co69 : Value).ownBlock) (fun _ => False) rfl rfl ?aP (fun _ hk => hk.elim) ?aF ?aO ?aB ?aS ?aL ?_
                     (case aP => exact rfl)
                     (case aB => exact (by repeat (first|(with_reducible first|exact HB.out|apply below_alloc|apply pw_below_drewN|apply below_drew1|refine below_set ?_ GE450.out|refine below_set ?_ GE451.out|refine below_set ?_ GE452.out|refine below_set ?_ GE455.out)|exact HB.out)))
                     (case aF => exact (fun k_ hk => ⟨Kd.fresh' (Kd.R_lt (rU HO460.out)) k_ hk,Kd.fresh' (Kd.R_lt (rU HO465.out)) k_ hk⟩))
                     (case aO => exact (rU HO_456002.out))
                     (case aS => exact (below_size (by repeat (first|(with_reducible first|exact HB.out|apply below_alloc|apply pw_below_drewN|apply below_drew1|refine below_set ?_ GE450.out|refine below_set ?_ GE451.out|refine below_set ?_ GE452.out|refine below_set ?_ GE455.out)|exact HB.out))))
                     (case aL => have:=LMc61.out;omega);intro v469 w73 ho hb hg hat
                     rw [← Ny468.out] at ho;have n0_:=Aside0.mk (blk_grown (g:=gb450) (o:=.cells #[.slice (some ad456) l0_0.length c0_0,.slice (some ad461) l0_1.length c0_1,.slice (some ad466) l0_2.length c0_2] 25 (0,0)) (blkU BK450.out) hg (Kd.R_ne HO_456002.out BK450.out (by decide)));have n1_:=Aside0.mk (blk_grown (g:=gb451) (o:=.cells #[.slice (some ad457) l1_0.length c1_0,.slice (some ad462) l1_1.length c1_1,.slice (some ad467) l1_2.length c1_2] 25 (0,0)) (blkU BK451.out) hg (Kd.R_ne HO_456002.out BK451.out (by decide)));have n2_:=Aside0.mk (blk_grown (g:=gb452) (o:=.cells #[.slice none 0 0,.slice none 0 0,.slice none 0 0] 25 (0,0)) (blkU BK452.out) hg (Kd.R_ne HO_456002.out BK452.out (by decide)));have n3_:=Aside0.mk (blk_grown (g:=gb455) (o:=.cells #[.slice Ao64 y458.length co64,.slice Ao69 y463.length co69,u456002] 25 (0,0)) (blkU BK455.out) hg (Kd.R_ne HO_456002.out BK455.out (by decide)));have n4_:=Aside0.mk (Kd.R_after (ok:=(fun k_ => some k_ ≠ (.slice Ao69 y463.length co69 : Value).ownBlock)) (by (with_reducible repeat (first|apply Kd.R_alloc|apply Kd.R_drewN|apply Kd.R_drew));exact Kd.R_mono HO460.out (fun _ hk => ⟨hk.2,hk.1⟩)) hg hat)
                     have n5_:=Aside0.mk (Kd.R_after (ok:=(fun k_ => some k_ ≠ (.slice Ao64 y458.length co64 : Value).ownBlock)) (by (with_reducible repeat (first|apply Kd.R_alloc|apply Kd.R_drewN|apply Kd.R_drew));exact Kd.R_mono HO465.out (fun _ hk => ⟨hk.2,hk.1⟩)) hg hat);have n6_:=Aside0.mk (hb);have n7_:=Aside0.mk (ho);clear BK450 BK451 BK452 BK455 HO460 HO465 HB HO_456002;have BK450:=n0_;have BK451:=n1_;have BK452:=n2_;have BK455:=n3_;have HO460:=n4_;have HO465:=n5_;have HB:=n6_;have HO470:=n7_;clear n0_ n1_ n2_ n3_ n4_ n5_ n6_ n7_ ho hb hg hat
                     obtain ⟨Ao74,co74,eo74⟩:=Kd.R_slice HO470.out
                     (first|subst eo74|(injection eo74 with f1_ f2_ f3_;have f4_:=f1_.symm;have f5_:=f3_.symm;clear f1_ f2_ f3_;subst f4_;subst f5_))
                     refine hK.out _ _ ⟨(blk_cell BK455.out 0).trans rfl,(blk_cell BK455.out 1).trans rfl,(blk_cell BK455.out 2).trans rfl,(blk_cell BK450.out 0).trans rfl,(blk_cell BK450.out 1).trans rfl,(blk_cell BK450.out 2).trans rfl,(blk_cell BK451.out 0).trans rfl,(blk_cell BK451.out 1).trans rfl,(blk_cell BK451.out 2).trans rfl,((HB.out.cell (World.block_lt_of_cell? w _ hw466_0)).trans hw466_0),((HB.out.cell (World.block_lt_of_cell? w _ hw467_0)).trans hw467_0)⟩ (fun hHeld => ?_);clear hK K
                     refine norm_ (a':=?_) ?_ ?_;rotate_left
                     ·
                      show Act.put _ (some 95) _ = _
                      simp only [Act.put,List.setIfInBounds_toArray,List.set_cons_zero,List.set_cons_succ,i64_w,i32_w]
                      rfl
                     refine pure_ (i:=15) (N:=some 96) (v:=?_) (a':=?_) #[true,true,true,true,true,true,true,true,true,true,true,true,true,true,true,true,false] rfl rfl (any_of HT_.out (by kernel_rfl)) (fun _ _ _ h => h) (Or.inl ⟨by rfl,?_⟩) ?_ ?_;rotate_left
                     ·
                      intro w'
                      go_simp
                      with_reducible rfl
                     rotate_left
                     ·
                      simp only [Act.put,List.setIfInBounds_toArray,List.set_cons_zero,List.set_cons_succ,i64_w,i32_w]
                      rfl
                     refine last_ (i:=16) (N:=none) #[true,true,true,true,true,true,true,true,true,true,true,true,true,true,true,true,true] rfl rfl (one_of HT_.out (by kernel_rfl)) (by decide) (fun K hK => ?_)
                     have hs75 : w73.cell? ⟨gb455,2,none⟩ = some (u456002):=(blk_cell BK455.out 2).trans rfl
                     have hfs75:=blk_frozen BK455.out 2;have hns75_0:=NB450_455.out;have hns75_1:=NB451_455.out;have hns75_2:=NB452_455.out;have hms75_0:=NB455_450.out;have hms75_1:=NB455_451.out;have hms75_2:=NB455_452.out
                     refine skip_ (w1:=?_) (by rfl) rfl ?_ ?_;rotate_left
                     ·
                      go_simp
                      rfl
                     refine hK.out _ _ ?_;clear hK K
                     refine done_ (done_of HT_.out (by kernel_rfl)) ?_
                     try go_wp2
                     go_roundg k3
                     case measure => have:=HJ2.out;have:=HK2.out;have:=HK3.out;omega
                     case rel => exact ⟨(wrap64 (x42_3 + 1)),(y458),(y463),(y468),(.slice Ao64 y458.length co64),(.slice Ao69 y463.length co69),(.slice Ao74 y468.length co74),(by first|rfl|(simp;done)|(simp [*];done)),H',⟨by have:=HJ2.out;have:=HK2.out;have:=HK3.out;omega⟩,⟨by (with_reducible repeat (first|apply Kd.R_alloc|apply Kd.R_drewN|apply Kd.R_drew));exact Kd.R_mono (Kd.R_far (p:=⟨gb455,2,none⟩) (Kd.R_types HO460.out BK455.out (by decide)) (fun _ hk => hk.2) (.slice Ao74 y468.length co74)) (fun _ hk => ⟨hk.1.1,hk.1.2⟩)⟩,⟨by (with_reducible repeat (first|apply Kd.R_alloc|apply Kd.R_drewN|apply Kd.R_drew));exact Kd.R_mono (Kd.R_far (p:=⟨gb455,2,none⟩) (Kd.R_types HO465.out BK455.out (by decide)) (fun _ hk => hk.2) (.slice Ao74 y468.length co74)) (fun _ hk => ⟨hk.1.1,hk.1.2⟩)⟩,⟨by (with_reducible repeat (first|apply Kd.R_alloc|apply Kd.R_drewN|apply Kd.R_drew));exact Kd.R_mono (Kd.R_far (p:=⟨gb455,2,none⟩) (Kd.R_types HO470.out BK455.out (by decide)) (fun _ hk => hk.2) (.slice Ao74 y468.length co74)) (fun _ hk => ⟨hk.1.1,hk.1.2⟩)⟩,⟨by (with_reducible repeat (first|refine blk_drewN ?_ _|refine blk_drew ?_|refine blk_alloc ?_ _));refine blk_far ?_ NB450_455.out _;(with_reducible repeat (first|refine blk_drewN ?_ _|refine blk_drew ?_|refine blk_alloc ?_ _));exact BK450.out⟩,⟨by (with_reducible repeat (first|refine blk_drewN ?_ _|refine blk_drew ?_|refine blk_alloc ?_ _));refine blk_far ?_ NB451_455.out _;(with_reducible repeat (first|refine blk_drewN ?_ _|refine blk_drew ?_|refine blk_alloc ?_ _));exact BK451.out⟩,⟨by (with_reducible repeat (first|refine blk_drewN ?_ _|refine blk_drew ?_|refine blk_alloc ?_ _));refine blk_far ?_ NB452_455.out _;(with_reducible repeat (first|refine blk_drewN ?_ _|refine blk_drew ?_|refine blk_alloc ?_ _));exact BK452.out⟩,⟨by (with_reducible repeat (first|refine blk_drewN ?_ _|refine blk_drew ?_|refine blk_alloc ?_ _));refine blk_put (cs:=#[.slice Ao64 y458.length co64,.slice Ao69 y463.length co69,u456002]) ?_ 2 _ rfl;(with_reducible repeat (first|refine blk_drewN ?_ _|refine blk_drew ?_|refine blk_alloc ?_ _));exact BK455.out⟩,⟨by repeat (first|(with_reducible first|exact HB.out|apply below_alloc|apply pw_below_drewN|apply below_drew1|refine below_set ?_ GE450.out|refine below_set ?_ GE451.out|refine below_set ?_ GE452.out|refine below_set ?_ GE455.out)|exact HB.out)⟩⟩
                    ·
                     rw [if_neg c61] at H
                     exact absurd H (by simp)
                   ·
                    rw [if_neg c60] at H
                    exact absurd H (by simp)
                  ·
                   rw [if_neg c59] at H
                   exact absurd H (by simp)
                 ·
                  rw [if_neg c58] at H
                  exact absurd H (by simp)
                ·
                 rw [if_neg c57] at H
                 exact absurd H (by simp)
               ·
                rw [if_neg c56] at H
                exact absurd H (by simp)
              ·
               rw [if_neg c55] at H
               exact absurd H (by simp)
             ·
              rw [if_neg c54] at H
              exact absurd H (by simp)
            ·
             rw [if_neg c53] at H
             exact absurd H (by simp)
           ·
            rw [if_neg c52] at H
            exact absurd H (by simp)
          ·
           rw [if_neg c51] at H
           exact absurd H (by simp)
         ·
          rw [if_neg c50] at H
          have c50b0 : decide (x42_3 < (l1_2.length : Int)) = false:=decide_eq_false c50;clear c50
          have H':=Aside0.mk H;clear H
          go_wp2
          go_roundg k3
          case measure => have:=HJ2.out;have:=HK2.out;have:=HK3.out;omega
          case rel => exact ⟨(wrap64 (x36_2 + 1)),(x456000_3),(x456001_3),(x456002_3),(u456000),(u456001),(u456002),(by first|rfl|(simp;done)|(simp [*];done)),H',⟨by have:=HJ2.out;have:=HK2.out;have:=HK3.out;omega⟩,⟨rU HO_456000.out⟩,⟨rU HO_456001.out⟩,⟨rU HO_456002.out⟩,⟨blkU BK450.out⟩,⟨blkU BK451.out⟩,⟨blkU BK452.out⟩,⟨blkU BK455.out⟩,⟨by repeat (first|(with_reducible first|exact HB.out|apply below_alloc|apply pw_below_drewN|apply below_drew1|refine below_set ?_ GE450.out|refine below_set ?_ GE451.out|refine below_set ?_ GE452.out|refine below_set ?_ GE455.out)|exact HB.out)⟩⟩
      ·
       rw [if_neg c45] at H
       have c45b0 : decide (x36_2 < (l0_2.length : Int)) = false:=decide_eq_false c45;clear c45
       simp only [Option.some.injEq,Prod.mk.injEq] at H
       obtain ⟨rfl,rfl,rfl,rfl⟩:=H;have hnb76:=NB455_450.out;have hnc76:=NB450_455.out;have hnb77:=NB455_451.out;have hnc77:=NB451_455.out;have hnb78:=NB455_452.out;have hnc78:=NB452_455.out
       have hcz79_0 : wr.cell? ⟨gb455,0,none⟩ = some (u456000):=(blk_cell BK455.out 0).trans rfl
       have hcz79_1 : wr.cell? ⟨gb455,1,none⟩ = some (u456001):=(blk_cell BK455.out 1).trans rfl
       have hcz79_2 : wr.cell? ⟨gb455,2,none⟩ = some (u456002):=(blk_cell BK455.out 2).trans rfl
       have hfz79_0:=blk_frozen BK455.out 0
       have hfz79_1:=blk_frozen BK455.out 1
       have hfz79_2:=blk_frozen BK455.out 2
       obtain ⟨Ao80,co80,eo80⟩:=Kd.R_slice HO_456000.out;subst eo80;have hnb81:=NB452_450.out;have hnc81:=NB450_452.out;have hnb82:=NB452_451.out;have hnc82:=NB451_452.out
       have hcz83_0 : wr.cell? ⟨gb452,0,none⟩ = some (.slice none 0 0):=(blk_cell BK452.out 0).trans rfl
       have hcz83_1 : wr.cell? ⟨gb452,1,none⟩ = some (.slice none 0 0):=(blk_cell BK452.out 1).trans rfl
       have hcz83_2 : wr.cell? ⟨gb452,2,none⟩ = some (.slice none 0 0):=(blk_cell BK452.out 2).trans rfl
       have hfz83_0:=blk_frozen BK452.out 0
       have hfz83_1:=blk_frozen BK452.out 1
       have hfz83_2:=blk_frozen BK452.out 2
       obtain ⟨Ao84,co84,eo84⟩:=Kd.R_slice HO_456001.out;subst eo84
       obtain ⟨Ao85,co85,eo85⟩:=Kd.R_slice HO_456002.out;subst eo85
       go_wp2
       refine bodyPost_ret (results_ct rfl _ _ gb452 25 #[.slice Ao80 x456000_2.length co80,.slice Ao84 x456001_2.length co84,.slice Ao85 x456002_2.length co85] (0,0) _ rfl (by (with_reducible repeat (first|refine blk_drewN ?_ _|refine blk_drew ?_|refine blk_alloc ?_ _));refine blk_put (cs:=#[.slice Ao80 x456000_2.length co80,.slice Ao84 x456001_2.length co84,.slice none 0 0]) ?_ 2 _ rfl;(with_reducible repeat (first|refine blk_drewN ?_ _|refine blk_drew ?_|refine blk_alloc ?_ _));refine blk_put (cs:=#[.slice Ao80 x456000_2.length co80,.slice none 0 0,.slice none 0 0]) ?_ 1 _ rfl;(with_reducible repeat (first|refine blk_drewN ?_ _|refine blk_drew ?_|refine blk_alloc ?_ _));refine blk_put (cs:=#[.slice none 0 0,.slice none 0 0,.slice none 0 0]) ?_ 0 _ rfl;(with_reducible repeat (first|refine blk_drewN ?_ _|refine blk_drew ?_|refine blk_alloc ?_ _));exact BK452.out) Tryd.underlying25 rfl (by kernel_rfl)) rfl ?_
       exact ⟨_,_,_,by first|rfl|(simp [errW_none,errW_some] <;> rfl)|(simp [*,errW_none,errW_some] <;> rfl),by (with_reducible repeat (first|apply Kd.R_alloc|apply Kd.R_drewN|apply Kd.R_drew));exact Kd.R_mono (Kd.R_far (p:=⟨gb452,2,none⟩) (Kd.R_far (p:=⟨gb452,1,none⟩) (Kd.R_far (p:=⟨gb452,0,none⟩) (Kd.R_types HO_456000.out BK452.out (by decide)) (fun _ hk => hk.2) (.slice Ao80 x456000_2.length co80)) (fun _ hk => hk.2) (.slice Ao84 x456001_2.length co84)) (fun _ hk => hk.2) (.slice Ao85 x456002_2.length co85)) (fun _ hk => ⟨hk.1.1,hk.1.2⟩),by (with_reducible repeat (first|apply Kd.R_alloc|apply Kd.R_drewN|apply Kd.R_drew));exact Kd.R_mono (Kd.R_far (p:=⟨gb452,2,none⟩) (Kd.R_far (p:=⟨gb452,1,none⟩) (Kd.R_far (p:=⟨gb452,0,none⟩) (Kd.R_types HO_456001.out BK452.out (by decide)) (fun _ hk => hk.2) (.slice Ao80 x456000_2.length co80)) (fun _ hk => hk.2) (.slice Ao84 x456001_2.length co84)) (fun _ hk => hk.2) (.slice Ao85 x456002_2.length co85)) (fun _ hk => ⟨hk.1.1,hk.1.2⟩),by (with_reducible repeat (first|apply Kd.R_alloc|apply Kd.R_drewN|apply Kd.R_drew));exact Kd.R_mono (Kd.R_far (p:=⟨gb452,2,none⟩) (Kd.R_far (p:=⟨gb452,1,none⟩) (Kd.R_far (p:=⟨gb452,0,none⟩) (Kd.R_types HO_456002.out BK452.out (by decide)) (fun _ hk => hk.2) (.slice Ao80 x456000_2.length co80)) (fun _ hk => hk.2) (.slice Ao84 x456001_2.length co84)) (fun _ hk => hk.2) (.slice Ao85 x456002_2.length co85)) (fun _ hk => ⟨hk.1.1,hk.1.2⟩),by repeat (first|(with_reducible first|exact HB.out|apply below_alloc|apply pw_below_drewN|apply below_drew1|refine below_set ?_ GE450.out|refine below_set ?_ GE451.out|refine below_set ?_ GE452.out|refine below_set ?_ GE455.out)|exact HB.out)⟩

end Go.Proofs.YthodcgkhianecaaDoor.PA
