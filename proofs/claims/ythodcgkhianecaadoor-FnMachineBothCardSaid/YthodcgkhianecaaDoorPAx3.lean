/- The machine side of functions of this seat, written by the session's program myprint.py: for each Go function a Lean function and the proof that the call answers just it. -/
import Derived.Test.YthodcgkhianecaaDoorPAx0
import Derived.Test.YthodcgkhianecaaDoorUp
import Derived.Test.YthodcgkhianecaaDoorPAx2
namespace Go.Proofs.YthodcgkhianecaaDoor.PA
open Go.RowKit Go.Proofs.YthodcgkhianecaaDoorW.PrintWords Go.Proofs.YthodcgkhianecaaDoorW.PrintLast Go.Proofs.YthodcgkhianecaaDoorW.PrintMore
attribute [local go_sem] max2_int min2_int max_two min_two max_three min_three max_four min_four   -- for this text's walks alone
set_option linter.unusedVariables false
set_option linter.unusedSimpArgs false

/-! ### spec_MachineBoth: function 14 -/
mutual
def spec_MachineBoth.j0 : Nat → Bool → List Int → List Int → List Int → List Int → List Int → List Int → Option (List Int × List Int × List Int × Bool)
 | 0,_,_,_,_,_,_,_ => none
 | k + 1,x27,x113000,x113001,x113002,x114000,x114001,x114002 => if x27 = true then (some (([] : List Int),([] : List Int),([] : List Int),false)) else (spec_MachineBoth.l0 k (x114000.length : Int) 0 x113000 x113001 x113002 x114000 x114001 x114002 ([] : List Int) ([] : List Int) ([] : List Int))
def spec_MachineBoth.l0 : Nat → Int → Int → List Int → List Int → List Int → List Int → List Int → List Int → List Int → List Int → List Int → Option (List Int × List Int × List Int × Bool)
 | 0,_,_,_,_,_,_,_,_,_,_,_ => none
 | k + 1,x7,x8,x113000,x113001,x113002,x114000,x114001,x114002,x118000,x118001,x118002 => if x8 < (x113000.length : Int) then (spec_MachineBoth.l1 k x7 x8 0 x113000 x113001 x113002 x114000 x114001 x114002 x118000 x118001 x118002) else (some (x118000,x118001,x118002,true))
def spec_MachineBoth.l1 : Nat → Int → Int → Int → List Int → List Int → List Int → List Int → List Int → List Int → List Int → List Int → List Int → Option (List Int × List Int × List Int × Bool)
 | 0,_,_,_,_,_,_,_,_,_,_,_,_ => none
 | k + 1,x7,x8,x9,x113000,x113001,x113002,x114000,x114001,x114002,x118000,x118001,x118002 => if x9 < x7 then (if 0 ≤ x8 then (if x8 < (x113000.length : Int) then (if 0 ≤ x9 then (if x9 < (x114000.length : Int) then (if x118000.length < 17592186044416 then (if x8 < (x113001.length : Int) then (if x9 < (x114001.length : Int) then (if x118001.length < 17592186044416 then (if x8 < (x113002.length : Int) then (if x9 < (x114002.length : Int) then (if x118002.length < 17592186044416 then (spec_MachineBoth.l1 k x7 x8 (wrap64 (x9 + 1)) x113000 x113001 x113002 x114000 x114001 x114002 (x118000 ++ [wrap64 ((wrap64 ((rd x113000 x8) * x7)) + (rd x114000 x9))]) (x118001 ++ [wrap64 ((wrap64 ((rd x113001 x8) * x7)) + (rd x114001 x9))]) (x118002 ++ [wrap64 ((rd x113002 x8) * (rd x114002 x9))])) else (none)) else (none)) else (none)) else (none)) else (none)) else (none)) else (none)) else (none)) else (none)) else (none)) else (none)) else (spec_MachineBoth.l0 k x7 (wrap64 (x8 + 1)) x113000 x113001 x113002 x114000 x114001 x114002 x118000 x118001 x118002)
end
def spec_MachineBoth.f (k : Nat) (l0_0 : List Int) (l0_1 : List Int) (l0_2 : List Int) (l1_0 : List Int) (l1_1 : List Int) (l1_2 : List Int) : Option (List Int × List Int × List Int × Bool):=(spec_MachineOk.f k l0_0 l0_1 l0_2).bind fun t115 => (if t115 = true then ((spec_MachineOk.f k l1_0 l1_1 l1_2).bind fun t116 => (if t116 = true then (spec_MachineBoth.j0 k (decide ((wrap64 ((l0_0.length : Int) * (l1_0.length : Int))) > 12)) l0_0 l0_1 l0_2 l1_0 l1_1 l1_2) else (spec_MachineBoth.j0 k true l0_0 l0_1 l0_2 l1_0 l1_1 l1_2))) else (spec_MachineBoth.j0 k true l0_0 l0_1 l0_2 l1_0 l1_1 l1_2))
theorem spec_MachineBoth.mono_l : ∀ k,(∀ y0 y1 y2 y3 y4 y5 y6,LeO (spec_MachineBoth.j0 k y0 y1 y2 y3 y4 y5 y6) (spec_MachineBoth.j0 (k + 1) y0 y1 y2 y3 y4 y5 y6)) ∧ (∀ y0 y1 y2 y3 y4 y5 y6 y7 y8 y9 y10,LeO (spec_MachineBoth.l0 k y0 y1 y2 y3 y4 y5 y6 y7 y8 y9 y10) (spec_MachineBoth.l0 (k + 1) y0 y1 y2 y3 y4 y5 y6 y7 y8 y9 y10)) ∧ (∀ y0 y1 y2 y3 y4 y5 y6 y7 y8 y9 y10 y11,LeO (spec_MachineBoth.l1 k y0 y1 y2 y3 y4 y5 y6 y7 y8 y9 y10 y11) (spec_MachineBoth.l1 (k + 1) y0 y1 y2 y3 y4 y5 y6 y7 y8 y9 y10 y11))
 | 0 => ⟨fun _ _ _ _ _ _ _ r h => by simp [spec_MachineBoth.j0] at h,fun _ _ _ _ _ _ _ _ _ _ _ r h => by simp [spec_MachineBoth.l0] at h,fun _ _ _ _ _ _ _ _ _ _ _ _ r h => by simp [spec_MachineBoth.l1] at h⟩
 | k + 1 => by
  obtain ⟨ih0,ih1,ih2⟩:=spec_MachineBoth.mono_l k
  refine ⟨?_,?_,?_⟩
  ·
   intro y0 y1 y2 y3 y4 y5 y6
   unfold spec_MachineBoth.j0
   repeat' first
   | (with_reducible exact ih0 _ _ _ _ _ _ _)
   | (with_reducible exact ih1 _ _ _ _ _ _ _ _ _ _ _)
   | (with_reducible exact ih2 _ _ _ _ _ _ _ _ _ _ _ _)
   | (with_reducible exact spec_MachineOk.mono _ _ _ _)
   | (with_reducible exact LeO.refl _)
   | (with_reducible exact LeO.none _)
   | (with_reducible refine LeO.ite ?_ ?_)
   | (with_reducible refine LeO.bind ?_ (fun _ => ?_))
   | exact ih0 _ _ _ _ _ _ _
   | exact ih1 _ _ _ _ _ _ _ _ _ _ _
   | exact ih2 _ _ _ _ _ _ _ _ _ _ _ _
   | exact spec_MachineOk.mono _ _ _ _
   | exact LeO.none _
   | refine LeO.ite ?_ ?_
   | refine LeO.bind ?_ (fun _ => ?_)
  ·
   intro y0 y1 y2 y3 y4 y5 y6 y7 y8 y9 y10
   unfold spec_MachineBoth.l0
   repeat' first
   | (with_reducible exact ih0 _ _ _ _ _ _ _)
   | (with_reducible exact ih1 _ _ _ _ _ _ _ _ _ _ _)
   | (with_reducible exact ih2 _ _ _ _ _ _ _ _ _ _ _ _)
   | (with_reducible exact spec_MachineOk.mono _ _ _ _)
   | (with_reducible exact LeO.refl _)
   | (with_reducible exact LeO.none _)
   | (with_reducible refine LeO.ite ?_ ?_)
   | (with_reducible refine LeO.bind ?_ (fun _ => ?_))
   | exact ih0 _ _ _ _ _ _ _
   | exact ih1 _ _ _ _ _ _ _ _ _ _ _
   | exact ih2 _ _ _ _ _ _ _ _ _ _ _ _
   | exact spec_MachineOk.mono _ _ _ _
   | exact LeO.none _
   | refine LeO.ite ?_ ?_
   | refine LeO.bind ?_ (fun _ => ?_)
  ·
   intro y0 y1 y2 y3 y4 y5 y6 y7 y8 y9 y10 y11
   unfold spec_MachineBoth.l1
   repeat' first
   | (with_reducible exact ih0 _ _ _ _ _ _ _)
   | (with_reducible exact ih1 _ _ _ _ _ _ _ _ _ _ _)
   | (with_reducible exact ih2 _ _ _ _ _ _ _ _ _ _ _ _)
   | (with_reducible exact spec_MachineOk.mono _ _ _ _)
   | (with_reducible exact LeO.refl _)
   | (with_reducible exact LeO.none _)
   | (with_reducible refine LeO.ite ?_ ?_)
   | (with_reducible refine LeO.bind ?_ (fun _ => ?_))
   | exact ih0 _ _ _ _ _ _ _
   | exact ih1 _ _ _ _ _ _ _ _ _ _ _
   | exact ih2 _ _ _ _ _ _ _ _ _ _ _ _
   | exact spec_MachineOk.mono _ _ _ _
   | exact LeO.none _
   | refine LeO.ite ?_ ?_
   | refine LeO.bind ?_ (fun _ => ?_)
theorem spec_MachineBoth.mono : ∀ a0 a1 a2 a3 a4 a5 k,LeO (spec_MachineBoth.f k a0 a1 a2 a3 a4 a5) (spec_MachineBoth.f (k + 1) a0 a1 a2 a3 a4 a5):=by
 intro a0 a1 a2 a3 a4 a5 k
 obtain ⟨ih0,ih1,ih2⟩:=spec_MachineBoth.mono_l k
 unfold spec_MachineBoth.f
 repeat' first
   | (with_reducible exact ih0 _ _ _ _ _ _ _)
   | (with_reducible exact ih1 _ _ _ _ _ _ _ _ _ _ _)
   | (with_reducible exact ih2 _ _ _ _ _ _ _ _ _ _ _ _)
   | (with_reducible exact spec_MachineOk.mono _ _ _ _)
   | (with_reducible exact LeO.refl _)
   | (with_reducible exact LeO.none _)
   | (with_reducible refine LeO.ite ?_ ?_)
   | (with_reducible refine LeO.bind ?_ (fun _ => ?_))
   | exact ih0 _ _ _ _ _ _ _
   | exact ih1 _ _ _ _ _ _ _ _ _ _ _
   | exact ih2 _ _ _ _ _ _ _ _ _ _ _ _
   | exact spec_MachineOk.mono _ _ _ _
   | exact LeO.none _
   | refine LeO.ite ?_ ?_
   | refine LeO.bind ?_ (fun _ => ?_)
def spec_MachineBoth.T11 : Bool × List (List Nat × List Nat):=(true,[([],[]),([0],[0]),([],[]),([2],[2]),([],[]),([3,4],[3,4]),([5],[5]),([],[]),([6,7],[6,7]),([],[]),([9],[9]),([],[]),([10,11],[10,11]),([12],[12]),([8,13],[8,13]),([14],[14]),([1,15],[1,15]),([0,1,2,3,4,5,6,7,8,9,10,11,12,13,14,15,16],[]),([17,16,16,0,1,2,3,4,5,6,7,8,9,10,11,12,13,14,15,16],[16,17])])
def spec_MachineBoth.B11 : List Nat:=[0,1,0,4,0,28,60,0,252,0,512,0,3584,7680,16380,32764,65535,131071,262143]
theorem spec_MachineBoth.tab11 : rtab .any (opsOf Tryd.f14 11) = spec_MachineBoth.T11:=by kernel_rfl
theorem spec_MachineBoth.bits11 : waitsOk spec_MachineBoth.T11.2 spec_MachineBoth.B11 = true:=by kernel_rfl
def spec_MachineBoth.T12 : Bool × List (List Nat × List Nat):=(true,[([],[]),([0],[0]),([],[]),([2],[2]),([],[]),([3,4],[3,4]),([5],[5]),([],[]),([6,7],[6,7]),([],[]),([9],[9]),([],[]),([10,11],[10,11]),([12],[12]),([8,13],[8,13]),([14],[14]),([1,15],[1,15]),([0,1,2,3,4,5,6,7,8,9,10,11,12,13,14,15,16],[]),([17,16,16,0,1,2,3,4,5,6,7,8,9,10,11,12,13,14,15,16],[16,17])])
def spec_MachineBoth.B12 : List Nat:=[0,1,0,4,0,28,60,0,252,0,512,0,3584,7680,16380,32764,65535,131071,262143]
theorem spec_MachineBoth.tab12 : rtab .any (opsOf Tryd.f14 12) = spec_MachineBoth.T12:=by kernel_rfl
theorem spec_MachineBoth.bits12 : waitsOk spec_MachineBoth.T12.2 spec_MachineBoth.B12 = true:=by kernel_rfl
def spec_MachineBoth.T13 : Bool × List (List Nat × List Nat):=(true,[([],[]),([0],[0]),([],[]),([2],[2]),([],[]),([3,4],[3,4]),([5],[5]),([],[]),([7],[7]),([],[]),([8,9],[8,9]),([10],[10]),([6,11],[6,11]),([12],[12]),([1,13],[1,13]),([0,1,2,3,4,5,6,7,8,9,10,11,12,13,14],[]),([15,14,14,0,1,2,3,4,5,6,7,8,9,10,11,12,13,14],[14,15])])
def spec_MachineBoth.B13 : List Nat:=[0,1,0,4,0,28,60,0,128,0,896,1920,4092,8188,16383,32767,65535]
theorem spec_MachineBoth.tab13 : rtab .any (opsOf Tryd.f14 13) = spec_MachineBoth.T13:=by kernel_rfl
theorem spec_MachineBoth.bits13 : waitsOk spec_MachineBoth.T13.2 spec_MachineBoth.B13 = true:=by kernel_rfl
set_option maxHeartbeats 8000000 in
set_option maxRecDepth 100000 in
theorem spec_MachineBoth.calls (k : Nat) (A0_0 : Option Addr) (c0_0 : Nat) (l0_0 : List Int) (A0_1 : Option Addr) (c0_1 : Nat) (l0_1 : List Int) (A0_2 : Option Addr) (c0_2 : Nat) (l0_2 : List Int) (A1_0 : Option Addr) (c1_0 : Nat) (l1_0 : List Int) (A1_1 : Option Addr) (c1_1 : Nat) (l1_1 : List Int) (A1_2 : Option Addr) (c1_2 : Nat) (l1_2 : List Int) (r1 : List Int) (r2 : List Int) (r3 : List Int) (r4 : Bool) (w : World) (hr0_0 : Kd.C (Kd.int .i64) w A0_0 l0_0.length l0_0) (hc0_0 : l0_0.length ≤ c0_0) (hr0_1 : Kd.C (Kd.int .i64) w A0_1 l0_1.length l0_1) (hc0_1 : l0_1.length ≤ c0_1) (hr0_2 : Kd.C (Kd.int .i64) w A0_2 l0_2.length l0_2) (hc0_2 : l0_2.length ≤ c0_2) (hr1_0 : Kd.C (Kd.int .i64) w A1_0 l1_0.length l1_0) (hc1_0 : l1_0.length ≤ c1_0) (hr1_1 : Kd.C (Kd.int .i64) w A1_1 l1_1.length l1_1) (hc1_1 : l1_1.length ≤ c1_1) (hr1_2 : Kd.C (Kd.int .i64) w A1_2 l1_2.length l1_2) (hc1_2 : l1_2.length ≤ c1_2) (h : spec_MachineBoth.f k l0_0 l0_1 l0_2 l1_0 l1_1 l1_2 = some (r1,r2,r3,r4)) :
  Calls Tryd.prog 14 #[.agg #[.slice A0_0 l0_0.length c0_0,.slice A0_1 l0_1.length c0_1,.slice A0_2 l0_2.length c0_2],.agg #[.slice A1_0 l1_0.length c1_0,.slice A1_1 l1_1.length c1_1,.slice A1_2 l1_2.length c1_2]] w fun e w' => ∃ v0_ v1_ v2_ : Value,e = .returned (.tuple #[.agg #[v0_,v1_,v2_],.bool r4]) ∧ Kd.R (Kd.int .i64) 3 w' w.heap.size (fun k_ => some k_ ≠ (v1_ : Value).ownBlock ∧ some k_ ≠ (v2_ : Value).ownBlock) v0_ r1 ∧ Kd.R (Kd.int .i64) 3 w' w.heap.size (fun k_ => some k_ ≠ (v0_ : Value).ownBlock ∧ some k_ ≠ (v2_ : Value).ownBlock) v1_ r2 ∧ Kd.R (Kd.int .i64) 3 w' w.heap.size (fun k_ => some k_ ≠ (v0_ : Value).ownBlock ∧ some k_ ≠ (v1_ : Value).ownBlock) v2_ r3 ∧ Below w.heap.size w w':=by
 have hu25:=Tryd.underlying25
 have HR0_0:=Aside0.mk hr0_0
 have HC0_0:=Aside0.mk hc0_0;clear hr0_0 hc0_0
 have HR0_1:=Aside0.mk hr0_1
 have HC0_1:=Aside0.mk hc0_1;clear hr0_1 hc0_1
 have HR0_2:=Aside0.mk hr0_2
 have HC0_2:=Aside0.mk hc0_2;clear hr0_2 hc0_2
 have HR1_0:=Aside0.mk hr1_0
 have HC1_0:=Aside0.mk hc1_0;clear hr1_0 hc1_0
 have HR1_1:=Aside0.mk hr1_1
 have HC1_1:=Aside0.mk hc1_1;clear hr1_1 hc1_1
 have HR1_2:=Aside0.mk hr1_2
 have HC1_2:=Aside0.mk hc1_2;clear hr1_2 hc1_2;have HB:=Aside0.mk (Below.refl w.heap.size w)
 have H : ((spec_MachineOk.f k l0_0 l0_1 l0_2).bind fun t115 => (if t115 = true then ((spec_MachineOk.f k l1_0 l1_1 l1_2).bind fun t116 => (if t116 = true then (spec_MachineBoth.j0 k (decide ((wrap64 ((l0_0.length : Int) * (l1_0.length : Int))) > 12)) l0_0 l0_1 l0_2 l1_0 l1_1 l1_2) else (spec_MachineBoth.j0 k true l0_0 l0_1 l0_2 l1_0 l1_1 l1_2))) else (spec_MachineBoth.j0 k true l0_0 l0_1 l0_2 l1_0 l1_1 l1_2))) = some (r1,r2,r3,r4):=h;clear h
 have HC3:=Aside0.mk H;clear H
 go_enter Tryd.func14,Tryd.ntmps14
 go_upto_region 1 with (first|((with_reducible refine gate_dst (N:=2) rfl ?_);(try (refine gate_guard (by rfl) ?_;dsimp only));refine box_event ?hg (N:=2) ?hd (cs:=#[.slice A0_0 l0_0.length c0_0,.slice A0_1 l0_1.length c0_1,.slice A0_2 l0_2.length c0_2]) (t:=25) ?hr ?_;(case hd => rfl);(case hg => rfl);(case hr => first|(go_simp;done)|(go_simp;rfl));intro gb112 hg w4 hbox hb;have n0_:=Aside0.mk (below_step (belU HB.out) hb);have n1_:=Aside0.mk (hbox);have n2_:=Aside0.mk ((by rw [hg];exact (below_size (belU HB.out)) : w.heap.size ≤ gb112));have n3_:=Aside0.mk ((by rw [hg];exact (below_size (belU HB.out)) : w.heap.size ≤ gb112));clear HB;have HB:=n0_;have BK112:=n1_;have GW112:=n2_;have GE112:=n3_;clear n0_ n1_ n2_ n3_ hb hbox hg)|((with_reducible refine gate_dst (N:=3) rfl ?_);(try (refine gate_guard (by rfl) ?_;dsimp only));refine box_event ?hg (N:=3) ?hd (cs:=#[.slice A1_0 l1_0.length c1_0,.slice A1_1 l1_1.length c1_1,.slice A1_2 l1_2.length c1_2]) (t:=25) ?hr ?_;(case hd => rfl);(case hg => rfl);(case hr => first|(go_simp;done)|(go_simp;rfl));intro gb113 hg w5 hbox hb;have n0_:=Aside0.mk (blk_below (g:=gb112) (o:=.cells #[.slice A0_0 l0_0.length c0_0,.slice A0_1 l0_1.length c0_1,.slice A0_2 l0_2.length c0_2] 25 (0,0)) (blkU BK112.out) hb);have n1_:=Aside0.mk (below_step (by repeat (first|(with_reducible first|exact HB.out|apply below_alloc|apply pw_below_drewN|apply below_drew1|refine below_set ?_ GE112.out)|exact HB.out)) hb);have n2_:=Aside0.mk (hbox);have n3_:=Aside0.mk ((by rw [hg];exact (below_size (by repeat (first|(with_reducible first|exact HB.out|apply below_alloc|apply pw_below_drewN|apply below_drew1|refine below_set ?_ GE112.out)|exact HB.out))) : w.heap.size ≤ gb113));have n4_:=Aside0.mk ((by rw [hg];exact (below_size (by repeat (first|(with_reducible first|exact HB.out|apply below_alloc|apply pw_below_drewN|apply below_drew1|refine below_set ?_ GE112.out)|exact HB.out))) : w.heap.size ≤ gb113));have n5_:=Aside0.mk ((by rw [hg];exact Nat.ne_of_lt (blk_lt (g:=gb112) (o:=.cells #[.slice A0_0 l0_0.length c0_0,.slice A0_1 l0_1.length c0_1,.slice A0_2 l0_2.length c0_2] 25 (0,0)) (blkU BK112.out)) : gb112 ≠ gb113));have n6_:=Aside0.mk ((by rw [hg];exact Nat.ne_of_gt (blk_lt (g:=gb112) (o:=.cells #[.slice A0_0 l0_0.length c0_0,.slice A0_1 l0_1.length c0_1,.slice A0_2 l0_2.length c0_2] 25 (0,0)) (blkU BK112.out)) : gb113 ≠ gb112));clear BK112 HB;have BK112:=n0_;have HB:=n1_;have BK113:=n2_;have GW113:=n3_;have GE113:=n4_;have NB112_113:=n5_;have NB113_112:=n6_;clear n0_ n1_ n2_ n3_ n4_ n5_ n6_ hb hbox hg)|((with_reducible refine gate_dst (N:=4) rfl ?_);(try (refine gate_guard (by rfl) ?_;dsimp only));refine box_event ?hg (N:=4) ?hd (cs:=#[.slice none 0 0,.slice none 0 0,.slice none 0 0]) (t:=25) ?hr ?_;(case hd => rfl);(case hg => rfl);(case hr => first|(go_simp;done)|(go_simp;rfl));intro gb114 hg w6 hbox hb;have n0_:=Aside0.mk (blk_below (g:=gb112) (o:=.cells #[.slice A0_0 l0_0.length c0_0,.slice A0_1 l0_1.length c0_1,.slice A0_2 l0_2.length c0_2] 25 (0,0)) (blkU BK112.out) hb);have n1_:=Aside0.mk (blk_below (g:=gb113) (o:=.cells #[.slice A1_0 l1_0.length c1_0,.slice A1_1 l1_1.length c1_1,.slice A1_2 l1_2.length c1_2] 25 (0,0)) (blkU BK113.out) hb);have n2_:=Aside0.mk (below_step (by repeat (first|(with_reducible first|exact HB.out|apply below_alloc|apply pw_below_drewN|apply below_drew1|refine below_set ?_ GE112.out|refine below_set ?_ GE113.out)|exact HB.out)) hb);have n3_:=Aside0.mk (hbox);have n4_:=Aside0.mk ((by rw [hg];exact (below_size (by repeat (first|(with_reducible first|exact HB.out|apply below_alloc|apply pw_below_drewN|apply below_drew1|refine below_set ?_ GE112.out|refine below_set ?_ GE113.out)|exact HB.out))) : w.heap.size ≤ gb114));have n5_:=Aside0.mk ((by rw [hg];exact (below_size (by repeat (first|(with_reducible first|exact HB.out|apply below_alloc|apply pw_below_drewN|apply below_drew1|refine below_set ?_ GE112.out|refine below_set ?_ GE113.out)|exact HB.out))) : w.heap.size ≤ gb114));have n6_:=Aside0.mk ((by rw [hg];exact Nat.ne_of_lt (blk_lt (g:=gb112) (o:=.cells #[.slice A0_0 l0_0.length c0_0,.slice A0_1 l0_1.length c0_1,.slice A0_2 l0_2.length c0_2] 25 (0,0)) (blkU BK112.out)) : gb112 ≠ gb114));have n7_:=Aside0.mk ((by rw [hg];exact Nat.ne_of_gt (blk_lt (g:=gb112) (o:=.cells #[.slice A0_0 l0_0.length c0_0,.slice A0_1 l0_1.length c0_1,.slice A0_2 l0_2.length c0_2] 25 (0,0)) (blkU BK112.out)) : gb114 ≠ gb112));have n8_:=Aside0.mk ((by rw [hg];exact Nat.ne_of_lt (blk_lt (g:=gb113) (o:=.cells #[.slice A1_0 l1_0.length c1_0,.slice A1_1 l1_1.length c1_1,.slice A1_2 l1_2.length c1_2] 25 (0,0)) (blkU BK113.out)) : gb113 ≠ gb114));have n9_:=Aside0.mk ((by rw [hg];exact Nat.ne_of_gt (blk_lt (g:=gb113) (o:=.cells #[.slice A1_0 l1_0.length c1_0,.slice A1_1 l1_1.length c1_1,.slice A1_2 l1_2.length c1_2] 25 (0,0)) (blkU BK113.out)) : gb114 ≠ gb113));clear BK112 BK113 HB;have BK112:=n0_;have BK113:=n1_;have HB:=n2_;have BK114:=n3_;have GW114:=n4_;have GE114:=n5_;have NB112_114:=n6_;have NB114_112:=n7_;have NB113_114:=n8_;have NB114_113:=n9_;clear n0_ n1_ n2_ n3_ n4_ n5_ n6_ n7_ n8_ n9_ hb hbox hg))
 (try simp only [Act.put,List.setIfInBounds_toArray,List.set_cons_zero,List.set_cons_succ])
 go_cut [27] (fun v27 wc => ∃ (kq : Nat) (x27_2 : Bool),v27 = .bool x27_2 ∧ Aside0 (spec_MachineBoth.j0 kq x27_2 l0_0 l0_1 l0_2 l1_0 l1_1 l1_2 = some (r1,r2,r3,r4)) ∧ Aside0 (kq ≤ k) ∧ Aside0 (wc.heap[gb112]? = some (.cells #[(.slice A0_0 l0_0.length c0_0),(.slice A0_1 l0_1.length c0_1),(.slice A0_2 l0_2.length c0_2)] 25 (0,0))) ∧ Aside0 (wc.heap[gb113]? = some (.cells #[(.slice A1_0 l1_0.length c1_0),(.slice A1_1 l1_1.length c1_1),(.slice A1_2 l1_2.length c1_2)] 25 (0,0))) ∧ Aside0 (wc.heap[gb114]? = some (.cells #[(.slice none 0 0),(.slice none 0 0),(.slice none 0 0)] 25 (0,0))) ∧ Aside0 (Below w.heap.size w wc))
 case first =>
  have H:=HC3.out;clear HC3
  replace H:=Option.bind_eq_some_iff.mp H
  obtain ⟨t115,A70,H⟩:=H
  replace H : (if t115 = true then ((spec_MachineOk.f k l1_0 l1_1 l1_2).bind fun t116 => (if t116 = true then (spec_MachineBoth.j0 k (decide ((wrap64 ((l0_0.length : Int) * (l1_0.length : Int))) > 12)) l0_0 l0_1 l0_2 l1_0 l1_1 l1_2) else (spec_MachineBoth.j0 k true l0_0 l0_1 l0_2 l1_0 l1_1 l1_2))) else (spec_MachineBoth.j0 k true l0_0 l0_1 l0_2 l1_0 l1_1 l1_2)) = some (r1,r2,r3,r4):=H
  have A7:=Aside0.mk A70;clear A70
  by_cases c8 : t115 = true
  ·
   subst c8
   have H1 : ((spec_MachineOk.f k l1_0 l1_1 l1_2).bind fun t116 => (if t116 = true then (spec_MachineBoth.j0 k (decide ((wrap64 ((l0_0.length : Int) * (l1_0.length : Int))) > 12)) l0_0 l0_1 l0_2 l1_0 l1_1 l1_2) else (spec_MachineBoth.j0 k true l0_0 l0_1 l0_2 l1_0 l1_1 l1_2))) = some (r1,r2,r3,r4):=by rw [if_pos rfl] at H;exact H
   clear H;have H:=H1;clear H1
   replace H:=Option.bind_eq_some_iff.mp H
   obtain ⟨t116,A90,H⟩:=H
   replace H : (if t116 = true then (spec_MachineBoth.j0 k (decide ((wrap64 ((l0_0.length : Int) * (l1_0.length : Int))) > 12)) l0_0 l0_1 l0_2 l1_0 l1_1 l1_2) else (spec_MachineBoth.j0 k true l0_0 l0_1 l0_2 l1_0 l1_1 l1_2)) = some (r1,r2,r3,r4):=H
   have A9:=Aside0.mk A90;clear A90
   by_cases c10 : t116 = true
   ·
    subst c10
    have H1 : (spec_MachineBoth.j0 k (decide ((wrap64 ((l0_0.length : Int) * (l1_0.length : Int))) > 12)) l0_0 l0_1 l0_2 l1_0 l1_1 l1_2) = some (r1,r2,r3,r4):=by rw [if_pos rfl] at H;exact H
    clear H;have H:=H1;clear H1
    have H':=Aside0.mk H;clear H;have hnb11:=NB112_113.out;have hnc11:=NB113_112.out;have hnb12:=NB112_114.out;have hnc12:=NB114_112.out
    have hcz13_0 : w6.cell? ⟨gb112,0,none⟩ = some (.slice A0_0 l0_0.length c0_0):=(blk_cell BK112.out 0).trans rfl
    have hcz13_1 : w6.cell? ⟨gb112,1,none⟩ = some (.slice A0_1 l0_1.length c0_1):=(blk_cell BK112.out 1).trans rfl
    have hcz13_2 : w6.cell? ⟨gb112,2,none⟩ = some (.slice A0_2 l0_2.length c0_2):=(blk_cell BK112.out 2).trans rfl
    have hfz13_0:=blk_frozen BK112.out 0
    have hfz13_1:=blk_frozen BK112.out 1
    have hfz13_2:=blk_frozen BK112.out 2
    go_wp2_with (first|((with_reducible refine gate_callee (f:=25) rfl ?_);refine goesL_ (some 11) rfl rfl Tryd.func25 (by kernel_rfl) rfl #[.agg #[.slice A0_0 l0_0.length c0_0,.slice A0_1 l0_1.length c0_1,.slice A0_2 l0_2.length c0_2]] rfl (by (try simp only [List.map_toArray,List.map_cons,List.map_nil]);first|done|rfl|(simp only [List.length_drop,List.length_take];rfl)) ?_;(with_reducible refine (spec_MachineOk.calls k _ _ l0_0 _ _ l0_1 _ _ l0_2 true _ ?side1 ?side2 ?side3 ?side4 ?side5 ?side6 A7.out).mono ?_);(case side1 => exact cU (Kd.C_below HR0_0.out HB.out));(case side2 => exact HC0_0.out);(case side3 => exact cU (Kd.C_below HR0_1.out HB.out));(case side4 => exact HC0_1.out);(case side5 => exact cU (Kd.C_below HR0_2.out HB.out));(case side6 => exact HC0_2.out);rintro e w14 ⟨rfl,hb⟩;refine ⟨_,rfl,?_⟩;have n0_:=Aside0.mk (blk_below (g:=gb112) (o:=.cells #[.slice A0_0 l0_0.length c0_0,.slice A0_1 l0_1.length c0_1,.slice A0_2 l0_2.length c0_2] 25 (0,0)) (blkU BK112.out) hb);have n1_:=Aside0.mk (blk_below (g:=gb113) (o:=.cells #[.slice A1_0 l1_0.length c1_0,.slice A1_1 l1_1.length c1_1,.slice A1_2 l1_2.length c1_2] 25 (0,0)) (blkU BK113.out) hb);have n2_:=Aside0.mk (blk_below (g:=gb114) (o:=.cells #[.slice none 0 0,.slice none 0 0,.slice none 0 0] 25 (0,0)) (blkU BK114.out) hb);have n3_:=Aside0.mk (below_step (by repeat (first|(with_reducible first|exact HB.out|apply below_alloc|apply pw_below_drewN|apply below_drew1|refine below_set ?_ GE112.out|refine below_set ?_ GE113.out|refine below_set ?_ GE114.out)|exact HB.out)) hb);clear BK112 BK113 BK114 HB;have BK112:=n0_;have BK113:=n1_;have BK114:=n2_;have HB:=n3_;clear n0_ n1_ n2_ n3_;(try clear hb);(try clear hb2);(try clear hk);(try clear hi);have hnb15:=NB113_114.out;have hnc15:=NB114_113.out;have hcz16_0 : w14.cell? ⟨gb113,0,none⟩ = some (.slice A1_0 l1_0.length c1_0):=(blk_cell BK113.out 0).trans rfl;have hcz16_1 : w14.cell? ⟨gb113,1,none⟩ = some (.slice A1_1 l1_1.length c1_1):=(blk_cell BK113.out 1).trans rfl;have hcz16_2 : w14.cell? ⟨gb113,2,none⟩ = some (.slice A1_2 l1_2.length c1_2):=(blk_cell BK113.out 2).trans rfl;have hfz16_0:=blk_frozen BK113.out 0;have hfz16_1:=blk_frozen BK113.out 1;have hfz16_2:=blk_frozen BK113.out 2)|(go_at_call 25;(with_reducible refine (spec_MachineOk.calls k _ _ l1_0 _ _ l1_1 _ _ l1_2 true _ ?side1 ?side2 ?side3 ?side4 ?side5 ?side6 A9.out).mono ?_);(case side1 => exact cU (Kd.C_below HR1_0.out HB.out));(case side2 => exact HC1_0.out);(case side3 => exact cU (Kd.C_below HR1_1.out HB.out));(case side4 => exact HC1_1.out);(case side5 => exact cU (Kd.C_below HR1_2.out HB.out));(case side6 => exact HC1_2.out);rintro e w17 ⟨rfl,hb⟩;have n0_:=Aside0.mk (blk_below (g:=gb112) (o:=.cells #[.slice A0_0 l0_0.length c0_0,.slice A0_1 l0_1.length c0_1,.slice A0_2 l0_2.length c0_2] 25 (0,0)) (blkU BK112.out) hb);have n1_:=Aside0.mk (blk_below (g:=gb113) (o:=.cells #[.slice A1_0 l1_0.length c1_0,.slice A1_1 l1_1.length c1_1,.slice A1_2 l1_2.length c1_2] 25 (0,0)) (blkU BK113.out) hb);have n2_:=Aside0.mk (blk_below (g:=gb114) (o:=.cells #[.slice none 0 0,.slice none 0 0,.slice none 0 0] 25 (0,0)) (blkU BK114.out) hb);have n3_:=Aside0.mk (below_step (by repeat (first|(with_reducible first|exact HB.out|apply below_alloc|apply pw_below_drewN|apply below_drew1|refine below_set ?_ GE112.out|refine below_set ?_ GE113.out|refine below_set ?_ GE114.out)|exact HB.out)) hb);clear BK112 BK113 BK114 HB;have BK112:=n0_;have BK113:=n1_;have BK114:=n2_;have HB:=n3_;clear n0_ n1_ n2_ n3_;(try clear hb);(try clear hb2);(try clear hk);(try clear hi);have hcz18_0 : w17.cell? ⟨gb112,0,none⟩ = some (.slice A0_0 l0_0.length c0_0):=(blk_cell BK112.out 0).trans rfl;have hcz18_1 : w17.cell? ⟨gb112,1,none⟩ = some (.slice A0_1 l0_1.length c0_1):=(blk_cell BK112.out 1).trans rfl;have hcz18_2 : w17.cell? ⟨gb112,2,none⟩ = some (.slice A0_2 l0_2.length c0_2):=(blk_cell BK112.out 2).trans rfl;have hfz18_0:=blk_frozen BK112.out 0;have hfz18_1:=blk_frozen BK112.out 1;have hfz18_2:=blk_frozen BK112.out 2;have hcz19_0 : w17.cell? ⟨gb113,0,none⟩ = some (.slice A1_0 l1_0.length c1_0):=(blk_cell BK113.out 0).trans rfl;have hcz19_1 : w17.cell? ⟨gb113,1,none⟩ = some (.slice A1_1 l1_1.length c1_1):=(blk_cell BK113.out 1).trans rfl;have hcz19_2 : w17.cell? ⟨gb113,2,none⟩ = some (.slice A1_2 l1_2.length c1_2):=(blk_cell BK113.out 2).trans rfl;have hfz19_0:=blk_frozen BK113.out 0;have hfz19_1:=blk_frozen BK113.out 1;have hfz19_2:=blk_frozen BK113.out 2))
    go_meet
    case rel => exact ⟨_,(decide ((wrap64 ((l0_0.length : Int) * (l1_0.length : Int))) > 12)),(by first|rfl|(simp;done)|(simp [*];done)),H',⟨by first|omega|exact Nat.le_refl _⟩,⟨blkU BK112.out⟩,⟨blkU BK113.out⟩,⟨blkU BK114.out⟩,⟨by repeat (first|(with_reducible first|exact HB.out|apply below_alloc|apply pw_below_drewN|apply below_drew1|refine below_set ?_ GE112.out|refine below_set ?_ GE113.out|refine below_set ?_ GE114.out)|exact HB.out)⟩⟩
   ·
    replace c10:=Bool.eq_false_iff.mpr c10;subst c10
    have H1 : (spec_MachineBoth.j0 k true l0_0 l0_1 l0_2 l1_0 l1_1 l1_2) = some (r1,r2,r3,r4):=by rw [if_neg (show ¬ (false = true) by decide)] at H;exact H
    clear H;have H:=H1;clear H1
    have H':=Aside0.mk H;clear H;have hnb20:=NB112_113.out;have hnc20:=NB113_112.out;have hnb21:=NB112_114.out;have hnc21:=NB114_112.out
    have hcz22_0 : w6.cell? ⟨gb112,0,none⟩ = some (.slice A0_0 l0_0.length c0_0):=(blk_cell BK112.out 0).trans rfl
    have hcz22_1 : w6.cell? ⟨gb112,1,none⟩ = some (.slice A0_1 l0_1.length c0_1):=(blk_cell BK112.out 1).trans rfl
    have hcz22_2 : w6.cell? ⟨gb112,2,none⟩ = some (.slice A0_2 l0_2.length c0_2):=(blk_cell BK112.out 2).trans rfl
    have hfz22_0:=blk_frozen BK112.out 0
    have hfz22_1:=blk_frozen BK112.out 1
    have hfz22_2:=blk_frozen BK112.out 2
    go_wp2_with (first|((with_reducible refine gate_callee (f:=25) rfl ?_);refine goesL_ (some 11) rfl rfl Tryd.func25 (by kernel_rfl) rfl #[.agg #[.slice A0_0 l0_0.length c0_0,.slice A0_1 l0_1.length c0_1,.slice A0_2 l0_2.length c0_2]] rfl (by (try simp only [List.map_toArray,List.map_cons,List.map_nil]);first|done|rfl|(simp only [List.length_drop,List.length_take];rfl)) ?_;(with_reducible refine (spec_MachineOk.calls k _ _ l0_0 _ _ l0_1 _ _ l0_2 true _ ?side1 ?side2 ?side3 ?side4 ?side5 ?side6 A7.out).mono ?_);(case side1 => exact cU (Kd.C_below HR0_0.out HB.out));(case side2 => exact HC0_0.out);(case side3 => exact cU (Kd.C_below HR0_1.out HB.out));(case side4 => exact HC0_1.out);(case side5 => exact cU (Kd.C_below HR0_2.out HB.out));(case side6 => exact HC0_2.out);rintro e w23 ⟨rfl,hb⟩;refine ⟨_,rfl,?_⟩;have n0_:=Aside0.mk (blk_below (g:=gb112) (o:=.cells #[.slice A0_0 l0_0.length c0_0,.slice A0_1 l0_1.length c0_1,.slice A0_2 l0_2.length c0_2] 25 (0,0)) (blkU BK112.out) hb);have n1_:=Aside0.mk (blk_below (g:=gb113) (o:=.cells #[.slice A1_0 l1_0.length c1_0,.slice A1_1 l1_1.length c1_1,.slice A1_2 l1_2.length c1_2] 25 (0,0)) (blkU BK113.out) hb);have n2_:=Aside0.mk (blk_below (g:=gb114) (o:=.cells #[.slice none 0 0,.slice none 0 0,.slice none 0 0] 25 (0,0)) (blkU BK114.out) hb);have n3_:=Aside0.mk (below_step (by repeat (first|(with_reducible first|exact HB.out|apply below_alloc|apply pw_below_drewN|apply below_drew1|refine below_set ?_ GE112.out|refine below_set ?_ GE113.out|refine below_set ?_ GE114.out)|exact HB.out)) hb);clear BK112 BK113 BK114 HB;have BK112:=n0_;have BK113:=n1_;have BK114:=n2_;have HB:=n3_;clear n0_ n1_ n2_ n3_;(try clear hb);(try clear hb2);(try clear hk);(try clear hi);have hnb24:=NB113_114.out;have hnc24:=NB114_113.out;have hcz25_0 : w23.cell? ⟨gb113,0,none⟩ = some (.slice A1_0 l1_0.length c1_0):=(blk_cell BK113.out 0).trans rfl;have hcz25_1 : w23.cell? ⟨gb113,1,none⟩ = some (.slice A1_1 l1_1.length c1_1):=(blk_cell BK113.out 1).trans rfl;have hcz25_2 : w23.cell? ⟨gb113,2,none⟩ = some (.slice A1_2 l1_2.length c1_2):=(blk_cell BK113.out 2).trans rfl;have hfz25_0:=blk_frozen BK113.out 0;have hfz25_1:=blk_frozen BK113.out 1;have hfz25_2:=blk_frozen BK113.out 2)|(go_at_call 25;(with_reducible refine (spec_MachineOk.calls k _ _ l1_0 _ _ l1_1 _ _ l1_2 false _ ?side1 ?side2 ?side3 ?side4 ?side5 ?side6 A9.out).mono ?_);(case side1 => exact cU (Kd.C_below HR1_0.out HB.out));(case side2 => exact HC1_0.out);(case side3 => exact cU (Kd.C_below HR1_1.out HB.out));(case side4 => exact HC1_1.out);(case side5 => exact cU (Kd.C_below HR1_2.out HB.out));(case side6 => exact HC1_2.out);rintro e w26 ⟨rfl,hb⟩;have n0_:=Aside0.mk (blk_below (g:=gb112) (o:=.cells #[.slice A0_0 l0_0.length c0_0,.slice A0_1 l0_1.length c0_1,.slice A0_2 l0_2.length c0_2] 25 (0,0)) (blkU BK112.out) hb);have n1_:=Aside0.mk (blk_below (g:=gb113) (o:=.cells #[.slice A1_0 l1_0.length c1_0,.slice A1_1 l1_1.length c1_1,.slice A1_2 l1_2.length c1_2] 25 (0,0)) (blkU BK113.out) hb);have n2_:=Aside0.mk (blk_below (g:=gb114) (o:=.cells #[.slice none 0 0,.slice none 0 0,.slice none 0 0] 25 (0,0)) (blkU BK114.out) hb);have n3_:=Aside0.mk (below_step (by repeat (first|(with_reducible first|exact HB.out|apply below_alloc|apply pw_below_drewN|apply below_drew1|refine below_set ?_ GE112.out|refine below_set ?_ GE113.out|refine below_set ?_ GE114.out)|exact HB.out)) hb);clear BK112 BK113 BK114 HB;have BK112:=n0_;have BK113:=n1_;have BK114:=n2_;have HB:=n3_;clear n0_ n1_ n2_ n3_;(try clear hb);(try clear hb2);(try clear hk);(try clear hi)))
    go_meet
    case rel => exact ⟨_,(true),(by first|rfl|(simp;done)|(simp [*];done)),H',⟨by first|omega|exact Nat.le_refl _⟩,⟨blkU BK112.out⟩,⟨blkU BK113.out⟩,⟨blkU BK114.out⟩,⟨by repeat (first|(with_reducible first|exact HB.out|apply below_alloc|apply pw_below_drewN|apply below_drew1|refine below_set ?_ GE112.out|refine below_set ?_ GE113.out|refine below_set ?_ GE114.out)|exact HB.out)⟩⟩
  ·
   replace c8:=Bool.eq_false_iff.mpr c8;subst c8
   have H1 : (spec_MachineBoth.j0 k true l0_0 l0_1 l0_2 l1_0 l1_1 l1_2) = some (r1,r2,r3,r4):=by rw [if_neg (show ¬ (false = true) by decide)] at H;exact H
   clear H;have H:=H1;clear H1
   have H':=Aside0.mk H;clear H;have hnb27:=NB112_113.out;have hnc27:=NB113_112.out;have hnb28:=NB112_114.out;have hnc28:=NB114_112.out
   have hcz29_0 : w6.cell? ⟨gb112,0,none⟩ = some (.slice A0_0 l0_0.length c0_0):=(blk_cell BK112.out 0).trans rfl
   have hcz29_1 : w6.cell? ⟨gb112,1,none⟩ = some (.slice A0_1 l0_1.length c0_1):=(blk_cell BK112.out 1).trans rfl
   have hcz29_2 : w6.cell? ⟨gb112,2,none⟩ = some (.slice A0_2 l0_2.length c0_2):=(blk_cell BK112.out 2).trans rfl
   have hfz29_0:=blk_frozen BK112.out 0
   have hfz29_1:=blk_frozen BK112.out 1
   have hfz29_2:=blk_frozen BK112.out 2
   go_wp2_with (first|((with_reducible refine gate_callee (f:=25) rfl ?_);refine goesL_ (some 11) rfl rfl Tryd.func25 (by kernel_rfl) rfl #[.agg #[.slice A0_0 l0_0.length c0_0,.slice A0_1 l0_1.length c0_1,.slice A0_2 l0_2.length c0_2]] rfl (by (try simp only [List.map_toArray,List.map_cons,List.map_nil]);first|done|rfl|(simp only [List.length_drop,List.length_take];rfl)) ?_;(with_reducible refine (spec_MachineOk.calls k _ _ l0_0 _ _ l0_1 _ _ l0_2 false _ ?side1 ?side2 ?side3 ?side4 ?side5 ?side6 A7.out).mono ?_);(case side1 => exact cU (Kd.C_below HR0_0.out HB.out));(case side2 => exact HC0_0.out);(case side3 => exact cU (Kd.C_below HR0_1.out HB.out));(case side4 => exact HC0_1.out);(case side5 => exact cU (Kd.C_below HR0_2.out HB.out));(case side6 => exact HC0_2.out);rintro e w30 ⟨rfl,hb⟩;refine ⟨_,rfl,?_⟩;have n0_:=Aside0.mk (blk_below (g:=gb112) (o:=.cells #[.slice A0_0 l0_0.length c0_0,.slice A0_1 l0_1.length c0_1,.slice A0_2 l0_2.length c0_2] 25 (0,0)) (blkU BK112.out) hb);have n1_:=Aside0.mk (blk_below (g:=gb113) (o:=.cells #[.slice A1_0 l1_0.length c1_0,.slice A1_1 l1_1.length c1_1,.slice A1_2 l1_2.length c1_2] 25 (0,0)) (blkU BK113.out) hb);have n2_:=Aside0.mk (blk_below (g:=gb114) (o:=.cells #[.slice none 0 0,.slice none 0 0,.slice none 0 0] 25 (0,0)) (blkU BK114.out) hb);have n3_:=Aside0.mk (below_step (by repeat (first|(with_reducible first|exact HB.out|apply below_alloc|apply pw_below_drewN|apply below_drew1|refine below_set ?_ GE112.out|refine below_set ?_ GE113.out|refine below_set ?_ GE114.out)|exact HB.out)) hb);clear BK112 BK113 BK114 HB;have BK112:=n0_;have BK113:=n1_;have BK114:=n2_;have HB:=n3_;clear n0_ n1_ n2_ n3_;(try clear hb);(try clear hb2);(try clear hk);(try clear hi)))
   go_meet
   case rel => exact ⟨_,(true),(by first|rfl|(simp;done)|(simp [*];done)),H',⟨by first|omega|exact Nat.le_refl _⟩,⟨blkU BK112.out⟩,⟨blkU BK113.out⟩,⟨blkU BK114.out⟩,⟨by repeat (first|(with_reducible first|exact HB.out|apply below_alloc|apply pw_below_drewN|apply below_drew1|refine below_set ?_ GE112.out|refine below_set ?_ GE113.out|refine below_set ?_ GE114.out)|exact HB.out)⟩⟩
 case rest =>
  clear HC3
  try clear c1
  try clear c2
  try clear p2
  try clear p6
  try clear c8
  try clear c10
  try clear c11
  try clear c12
  try clear c14
  try clear c15
  try clear c20
  try clear c21
  try clear c24
  try clear c25
  try clear c27
  try clear c28
  try clear hcz13_0
  try clear hcz13_1
  try clear hcz13_2
  try clear hcz16_0
  try clear hcz16_1
  try clear hcz16_2
  try clear hcz18_0
  try clear hcz18_1
  try clear hcz18_2
  try clear hcz19_0
  try clear hcz19_1
  try clear hcz19_2
  try clear hcz22_0
  try clear hcz22_1
  try clear hcz22_2
  try clear hcz25_0
  try clear hcz25_1
  try clear hcz25_2
  try clear hcz29_0
  try clear hcz29_1
  try clear hcz29_2
  try clear hfz13_0
  try clear hfz13_1
  try clear hfz13_2
  try clear hfz16_0
  try clear hfz16_1
  try clear hfz16_2
  try clear hfz18_0
  try clear hfz18_1
  try clear hfz18_2
  try clear hfz19_0
  try clear hfz19_1
  try clear hfz19_2
  try clear hfz22_0
  try clear hfz22_1
  try clear hfz22_2
  try clear hfz25_0
  try clear hfz25_1
  try clear hfz25_2
  try clear hfz29_0
  try clear hfz29_1
  try clear hfz29_2
  obtain ⟨kq,x27_2,rfl,HA,HJ2,BK112,BK113,BK114,HB⟩:=hcut
  cases kq with
  | zero => exact absurd HA.out (by simp [spec_MachineBoth.j0])
  | succ kj2 =>
   have H:=HA.out;clear HA
   simp only [spec_MachineBoth.j0] at H
   by_cases c31 : x27_2 = true
   ·
    subst c31
    have H1 : (some (([] : List Int),([] : List Int),([] : List Int),false)) = some (r1,r2,r3,r4):=by rw [if_pos rfl] at H;exact H
    clear H;have H:=H1;clear H1
    simp only [Option.some.injEq,Prod.mk.injEq] at H
    obtain ⟨rfl,rfl,rfl,rfl⟩:=H;have hnb32:=NB114_112.out;have hnc32:=NB112_114.out;have hnb33:=NB114_113.out;have hnc33:=NB113_114.out
    have hcz34_0 : wc.cell? ⟨gb114,0,none⟩ = some (.slice none 0 0):=(blk_cell BK114.out 0).trans rfl
    have hcz34_1 : wc.cell? ⟨gb114,1,none⟩ = some (.slice none 0 0):=(blk_cell BK114.out 1).trans rfl
    have hcz34_2 : wc.cell? ⟨gb114,2,none⟩ = some (.slice none 0 0):=(blk_cell BK114.out 2).trans rfl
    have hfz34_0:=blk_frozen BK114.out 0
    have hfz34_1:=blk_frozen BK114.out 1
    have hfz34_2:=blk_frozen BK114.out 2
    go_wp2
    refine bodyPost_ret (results_ct rfl _ _ gb114 25 #[.slice none 0 0,.slice none 0 0,.slice none 0 0] (0,0) _ rfl (by (with_reducible repeat (first|refine blk_drewN ?_ _|refine blk_drew ?_|refine blk_alloc ?_ _));refine blk_put (cs:=#[.slice none 0 0,.slice none 0 0,.slice none 0 0]) ?_ 2 _ rfl;(with_reducible repeat (first|refine blk_drewN ?_ _|refine blk_drew ?_|refine blk_alloc ?_ _));refine blk_put (cs:=#[.slice none 0 0,.slice none 0 0,.slice none 0 0]) ?_ 1 _ rfl;(with_reducible repeat (first|refine blk_drewN ?_ _|refine blk_drew ?_|refine blk_alloc ?_ _));refine blk_put (cs:=#[.slice none 0 0,.slice none 0 0,.slice none 0 0]) ?_ 0 _ rfl;(with_reducible repeat (first|refine blk_drewN ?_ _|refine blk_drew ?_|refine blk_alloc ?_ _));exact BK114.out) Tryd.underlying25 rfl (by kernel_rfl)) rfl ?_
    exact ⟨_,_,_,by first|rfl|(simp [errW_none,errW_some] <;> rfl)|(simp [*,errW_none,errW_some] <;> rfl),by first|exact Kd.R_nil _ _ _ _ _|exact Kd.N_nil _ _ _ _ _|exact Kd.V_nil _ _ _ _ _|exact Kd.Q_nil _ _ _ _ _|exact Kd.S_nil _ _ _ _ _,by first|exact Kd.R_nil _ _ _ _ _|exact Kd.N_nil _ _ _ _ _|exact Kd.V_nil _ _ _ _ _|exact Kd.Q_nil _ _ _ _ _|exact Kd.S_nil _ _ _ _ _,by first|exact Kd.R_nil _ _ _ _ _|exact Kd.N_nil _ _ _ _ _|exact Kd.V_nil _ _ _ _ _|exact Kd.Q_nil _ _ _ _ _|exact Kd.S_nil _ _ _ _ _,by repeat (first|(with_reducible first|exact HB.out|apply below_alloc|apply pw_below_drewN|apply below_drew1|refine below_set ?_ GE112.out|refine below_set ?_ GE113.out|refine below_set ?_ GE114.out)|exact HB.out)⟩
   ·
    replace c31:=Bool.eq_false_iff.mpr c31;subst c31
    have H1 : (spec_MachineBoth.l0 kj2 (l1_0.length : Int) 0 l0_0 l0_1 l0_2 l1_0 l1_1 l1_2 ([] : List Int) ([] : List Int) ([] : List Int)) = some (r1,r2,r3,r4):=by rw [if_neg (show ¬ (false = true) by decide)] at H;exact H
    clear H;have H:=H1;clear H1
    have H':=Aside0.mk H;clear H
    go_wp2_with (first|((with_reducible refine gate_dst (N:=6) rfl ?_);(try (refine gate_guard (by rfl) ?_;dsimp only));refine box_event ?hg (N:=6) ?hd (cs:=#[.slice none 0 0,.slice none 0 0,.slice none 0 0]) (t:=25) ?hr ?_;(case hd => rfl);(case hg => rfl);(case hr => first|(go_simp;done)|(go_simp;rfl));intro gb117 hg w35 hbox hb;have n0_:=Aside0.mk (blk_below (g:=gb112) (o:=.cells #[.slice A0_0 l0_0.length c0_0,.slice A0_1 l0_1.length c0_1,.slice A0_2 l0_2.length c0_2] 25 (0,0)) (blkU BK112.out) hb);have n1_:=Aside0.mk (blk_below (g:=gb113) (o:=.cells #[.slice A1_0 l1_0.length c1_0,.slice A1_1 l1_1.length c1_1,.slice A1_2 l1_2.length c1_2] 25 (0,0)) (blkU BK113.out) hb);have n2_:=Aside0.mk (blk_below (g:=gb114) (o:=.cells #[.slice none 0 0,.slice none 0 0,.slice none 0 0] 25 (0,0)) (blkU BK114.out) hb);have n3_:=Aside0.mk (below_step (by repeat (first|(with_reducible first|exact HB.out|apply below_alloc|apply pw_below_drewN|apply below_drew1|refine below_set ?_ GE112.out|refine below_set ?_ GE113.out|refine below_set ?_ GE114.out)|exact HB.out)) hb);have n4_:=Aside0.mk (hbox);have n5_:=Aside0.mk ((by rw [hg];exact (below_size (by repeat (first|(with_reducible first|exact HB.out|apply below_alloc|apply pw_below_drewN|apply below_drew1|refine below_set ?_ GE112.out|refine below_set ?_ GE113.out|refine below_set ?_ GE114.out)|exact HB.out))) : w.heap.size ≤ gb117));have n6_:=Aside0.mk ((by rw [hg];exact (below_size (by repeat (first|(with_reducible first|exact HB.out|apply below_alloc|apply pw_below_drewN|apply below_drew1|refine below_set ?_ GE112.out|refine below_set ?_ GE113.out|refine below_set ?_ GE114.out)|exact HB.out))) : w.heap.size ≤ gb117));have n7_:=Aside0.mk ((by rw [hg];exact Nat.ne_of_lt (blk_lt (g:=gb112) (o:=.cells #[.slice A0_0 l0_0.length c0_0,.slice A0_1 l0_1.length c0_1,.slice A0_2 l0_2.length c0_2] 25 (0,0)) (blkU BK112.out)) : gb112 ≠ gb117));have n8_:=Aside0.mk ((by rw [hg];exact Nat.ne_of_gt (blk_lt (g:=gb112) (o:=.cells #[.slice A0_0 l0_0.length c0_0,.slice A0_1 l0_1.length c0_1,.slice A0_2 l0_2.length c0_2] 25 (0,0)) (blkU BK112.out)) : gb117 ≠ gb112));have n9_:=Aside0.mk ((by rw [hg];exact Nat.ne_of_lt (blk_lt (g:=gb113) (o:=.cells #[.slice A1_0 l1_0.length c1_0,.slice A1_1 l1_1.length c1_1,.slice A1_2 l1_2.length c1_2] 25 (0,0)) (blkU BK113.out)) : gb113 ≠ gb117));have n10_:=Aside0.mk ((by rw [hg];exact Nat.ne_of_gt (blk_lt (g:=gb113) (o:=.cells #[.slice A1_0 l1_0.length c1_0,.slice A1_1 l1_1.length c1_1,.slice A1_2 l1_2.length c1_2] 25 (0,0)) (blkU BK113.out)) : gb117 ≠ gb113));have n11_:=Aside0.mk ((by rw [hg];exact Nat.ne_of_lt (blk_lt (g:=gb114) (o:=.cells #[.slice none 0 0,.slice none 0 0,.slice none 0 0] 25 (0,0)) (blkU BK114.out)) : gb114 ≠ gb117));have n12_:=Aside0.mk ((by rw [hg];exact Nat.ne_of_gt (blk_lt (g:=gb114) (o:=.cells #[.slice none 0 0,.slice none 0 0,.slice none 0 0] 25 (0,0)) (blkU BK114.out)) : gb117 ≠ gb114));clear BK112 BK113 BK114 HB;have BK112:=n0_;have BK113:=n1_;have BK114:=n2_;have HB:=n3_;have BK117:=n4_;have GW117:=n5_;have GE117:=n6_;have NB112_117:=n7_;have NB117_112:=n8_;have NB113_117:=n9_;have NB117_113:=n10_;have NB114_117:=n11_;have NB117_114:=n12_;clear n0_ n1_ n2_ n3_ n4_ n5_ n6_ n7_ n8_ n9_ n10_ n11_ n12_ hb hbox hg;have hnb36:=NB117_112.out;have hnc36:=NB112_117.out;have hnb37:=NB117_113.out;have hnc37:=NB113_117.out;have hnb38:=NB117_114.out;have hnc38:=NB114_117.out;have hcz39_0 : w35.cell? ⟨gb117,0,none⟩ = some (.slice none 0 0):=(blk_cell BK117.out 0).trans rfl;have hcz39_1 : w35.cell? ⟨gb117,1,none⟩ = some (.slice none 0 0):=(blk_cell BK117.out 1).trans rfl;have hcz39_2 : w35.cell? ⟨gb117,2,none⟩ = some (.slice none 0 0):=(blk_cell BK117.out 2).trans rfl;have hfz39_0:=blk_frozen BK117.out 0;have hfz39_1:=blk_frozen BK117.out 1;have hfz39_2:=blk_frozen BK117.out 2;have hnb40:=NB113_112.out;have hnc40:=NB112_113.out;have hnb41:=NB113_114.out;have hnc41:=NB114_113.out;have hcz42_0 : w35.cell? ⟨gb113,0,none⟩ = some (.slice A1_0 l1_0.length c1_0):=(blk_cell BK113.out 0).trans rfl;have hcz42_1 : w35.cell? ⟨gb113,1,none⟩ = some (.slice A1_1 l1_1.length c1_1):=(blk_cell BK113.out 1).trans rfl;have hcz42_2 : w35.cell? ⟨gb113,2,none⟩ = some (.slice A1_2 l1_2.length c1_2):=(blk_cell BK113.out 2).trans rfl;have hfz42_0:=blk_frozen BK113.out 0;have hfz42_1:=blk_frozen BK113.out 1;have hfz42_2:=blk_frozen BK113.out 2))
    go_loopg [8] kj2 (fun kq v8 w' => ∃ (x8_2 : Int) (x118000_2 : List Int) (x118001_2 : List Int) (x118002_2 : List Int) (u118000 : Value) (u118001 : Value) (u118002 : Value),v8 = .int .i64 x8_2 ∧ Aside0 (spec_MachineBoth.l0 kq (l1_0.length : Int) x8_2 l0_0 l0_1 l0_2 l1_0 l1_1 l1_2 x118000_2 x118001_2 x118002_2 = some (r1,r2,r3,r4)) ∧ Aside0 (kq ≤ kj2) ∧ Aside0 (Kd.R (Kd.int .i64) 3 w' w.heap.size (fun k_ => some k_ ≠ (u118001 : Value).ownBlock ∧ some k_ ≠ (u118002 : Value).ownBlock) u118000 x118000_2) ∧ Aside0 (Kd.R (Kd.int .i64) 3 w' w.heap.size (fun k_ => some k_ ≠ (u118000 : Value).ownBlock ∧ some k_ ≠ (u118002 : Value).ownBlock) u118001 x118001_2) ∧ Aside0 (Kd.R (Kd.int .i64) 3 w' w.heap.size (fun k_ => some k_ ≠ (u118000 : Value).ownBlock ∧ some k_ ≠ (u118001 : Value).ownBlock) u118002 x118002_2) ∧ Aside0 (w'.heap[gb112]? = some (.cells #[(.slice A0_0 l0_0.length c0_0),(.slice A0_1 l0_1.length c0_1),(.slice A0_2 l0_2.length c0_2)] 25 (0,0))) ∧ Aside0 (w'.heap[gb113]? = some (.cells #[(.slice A1_0 l1_0.length c1_0),(.slice A1_1 l1_1.length c1_1),(.slice A1_2 l1_2.length c1_2)] 25 (0,0))) ∧ Aside0 (w'.heap[gb114]? = some (.cells #[(.slice none 0 0),(.slice none 0 0),(.slice none 0 0)] 25 (0,0))) ∧ Aside0 (w'.heap[gb117]? = some (.cells #[u118000,u118001,u118002] 25 (0,0))) ∧ Aside0 (Below w.heap.size w w'))
    case atStart => exact ⟨(0),(([] : List Int)),(([] : List Int)),(([] : List Int)),(.slice none 0 0),(.slice none 0 0),(.slice none 0 0),(by first|rfl|(simp;done)|(simp [*];done)),H',⟨Nat.le_refl _⟩,⟨by first|exact Kd.R_nil _ _ _ _ _|exact Kd.N_nil _ _ _ _ _|exact Kd.V_nil _ _ _ _ _|exact Kd.Q_nil _ _ _ _ _|exact Kd.S_nil _ _ _ _ _⟩,⟨by first|exact Kd.R_nil _ _ _ _ _|exact Kd.N_nil _ _ _ _ _|exact Kd.V_nil _ _ _ _ _|exact Kd.Q_nil _ _ _ _ _|exact Kd.S_nil _ _ _ _ _⟩,⟨by first|exact Kd.R_nil _ _ _ _ _|exact Kd.N_nil _ _ _ _ _|exact Kd.V_nil _ _ _ _ _|exact Kd.Q_nil _ _ _ _ _|exact Kd.S_nil _ _ _ _ _⟩,⟨by (with_reducible repeat (first|refine blk_drewN ?_ _|refine blk_drew ?_|refine blk_alloc ?_ _));refine blk_far ?_ NB112_117.out _;(with_reducible repeat (first|refine blk_drewN ?_ _|refine blk_drew ?_|refine blk_alloc ?_ _));refine blk_far ?_ NB112_117.out _;(with_reducible repeat (first|refine blk_drewN ?_ _|refine blk_drew ?_|refine blk_alloc ?_ _));refine blk_far ?_ NB112_117.out _;(with_reducible repeat (first|refine blk_drewN ?_ _|refine blk_drew ?_|refine blk_alloc ?_ _));exact BK112.out⟩,⟨by (with_reducible repeat (first|refine blk_drewN ?_ _|refine blk_drew ?_|refine blk_alloc ?_ _));refine blk_far ?_ NB113_117.out _;(with_reducible repeat (first|refine blk_drewN ?_ _|refine blk_drew ?_|refine blk_alloc ?_ _));refine blk_far ?_ NB113_117.out _;(with_reducible repeat (first|refine blk_drewN ?_ _|refine blk_drew ?_|refine blk_alloc ?_ _));refine blk_far ?_ NB113_117.out _;(with_reducible repeat (first|refine blk_drewN ?_ _|refine blk_drew ?_|refine blk_alloc ?_ _));exact BK113.out⟩,⟨by (with_reducible repeat (first|refine blk_drewN ?_ _|refine blk_drew ?_|refine blk_alloc ?_ _));refine blk_far ?_ NB114_117.out _;(with_reducible repeat (first|refine blk_drewN ?_ _|refine blk_drew ?_|refine blk_alloc ?_ _));refine blk_far ?_ NB114_117.out _;(with_reducible repeat (first|refine blk_drewN ?_ _|refine blk_drew ?_|refine blk_alloc ?_ _));refine blk_far ?_ NB114_117.out _;(with_reducible repeat (first|refine blk_drewN ?_ _|refine blk_drew ?_|refine blk_alloc ?_ _));exact BK114.out⟩,⟨by (with_reducible repeat (first|refine blk_drewN ?_ _|refine blk_drew ?_|refine blk_alloc ?_ _));refine blk_put (cs:=#[.slice none 0 0,.slice none 0 0,.slice none 0 0]) ?_ 2 _ rfl;(with_reducible repeat (first|refine blk_drewN ?_ _|refine blk_drew ?_|refine blk_alloc ?_ _));refine blk_put (cs:=#[.slice none 0 0,.slice none 0 0,.slice none 0 0]) ?_ 1 _ rfl;(with_reducible repeat (first|refine blk_drewN ?_ _|refine blk_drew ?_|refine blk_alloc ?_ _));refine blk_put (cs:=#[.slice none 0 0,.slice none 0 0,.slice none 0 0]) ?_ 0 _ rfl;(with_reducible repeat (first|refine blk_drewN ?_ _|refine blk_drew ?_|refine blk_alloc ?_ _));exact BK117.out⟩,⟨by repeat (first|(with_reducible first|exact HB.out|apply below_alloc|apply pw_below_drewN|apply below_drew1|refine below_set ?_ GE112.out|refine below_set ?_ GE113.out|refine below_set ?_ GE114.out|refine below_set ?_ GE117.out)|exact HB.out)⟩⟩
    case round =>
     clear H'
     try clear c1
     try clear c2
     try clear p2
     try clear c3
     try clear c4
     try clear p6
     try clear c8
     try clear c10
     try clear c11
     try clear c12
     try clear c14
     try clear c15
     try clear c20
     try clear c21
     try clear c24
     try clear c25
     try clear c27
     try clear c28
     try clear c31
     try clear c32
     try clear c33
     try clear c36
     try clear c37
     try clear c38
     try clear c40
     try clear c41
     try clear hcz13_0
     try clear hcz13_1
     try clear hcz13_2
     try clear hcz16_0
     try clear hcz16_1
     try clear hcz16_2
     try clear hcz18_0
     try clear hcz18_1
     try clear hcz18_2
     try clear hcz19_0
     try clear hcz19_1
     try clear hcz19_2
     try clear hcz22_0
     try clear hcz22_1
     try clear hcz22_2
     try clear hcz25_0
     try clear hcz25_1
     try clear hcz25_2
     try clear hcz29_0
     try clear hcz29_1
     try clear hcz29_2
     try clear hcz34_0
     try clear hcz34_1
     try clear hcz34_2
     try clear hcz39_0
     try clear hcz39_1
     try clear hcz39_2
     try clear hcz42_0
     try clear hcz42_1
     try clear hcz42_2
     try clear hfz13_0
     try clear hfz13_1
     try clear hfz13_2
     try clear hfz16_0
     try clear hfz16_1
     try clear hfz16_2
     try clear hfz18_0
     try clear hfz18_1
     try clear hfz18_2
     try clear hfz19_0
     try clear hfz19_1
     try clear hfz19_2
     try clear hfz22_0
     try clear hfz22_1
     try clear hfz22_2
     try clear hfz25_0
     try clear hfz25_1
     try clear hfz25_2
     try clear hfz29_0
     try clear hfz29_1
     try clear hfz29_2
     try clear hfz34_0
     try clear hfz34_1
     try clear hfz34_2
     try clear hfz39_0
     try clear hfz39_1
     try clear hfz39_2
     try clear hfz42_0
     try clear hfz42_1
     try clear hfz42_2
     try clear p2
     try clear p6
     obtain ⟨x8_2,x118000_2,x118001_2,x118002_2,u118000,u118001,u118002,rfl,HA,HK2,HO_118000,HO_118001,HO_118002,BK112,BK113,BK114,BK117,HB⟩:=hrel
     cases gk with
     | zero => exact absurd HA.out (by simp [spec_MachineBoth.l0])
     | succ k2 =>
      have H:=HA.out;clear HA
      simp only [spec_MachineBoth.l0] at H
      by_cases c43 : x8_2 < (l0_0.length : Int)
      ·
       rw [if_pos c43] at H
       have c43b0 : decide (x8_2 < (l0_0.length : Int)) = true:=decide_eq_true c43;clear c43
       have H':=Aside0.mk H;clear H;have hnb44:=NB112_113.out;have hnc44:=NB113_112.out;have hnb45:=NB112_114.out;have hnc45:=NB114_112.out;have hnb46:=NB112_117.out;have hnc46:=NB117_112.out
       have hcz47_0 : wr.cell? ⟨gb112,0,none⟩ = some (.slice A0_0 l0_0.length c0_0):=(blk_cell BK112.out 0).trans rfl
       have hcz47_1 : wr.cell? ⟨gb112,1,none⟩ = some (.slice A0_1 l0_1.length c0_1):=(blk_cell BK112.out 1).trans rfl
       have hcz47_2 : wr.cell? ⟨gb112,2,none⟩ = some (.slice A0_2 l0_2.length c0_2):=(blk_cell BK112.out 2).trans rfl
       have hfz47_0:=blk_frozen BK112.out 0
       have hfz47_1:=blk_frozen BK112.out 1
       have hfz47_2:=blk_frozen BK112.out 2
       go_wp2
       go_loopg [9] k2 (fun kq v9 w' => ∃ (x9_3 : Int) (x118000_3 : List Int) (x118001_3 : List Int) (x118002_3 : List Int) (u118000 : Value) (u118001 : Value) (u118002 : Value),v9 = .int .i64 x9_3 ∧ Aside0 (spec_MachineBoth.l1 kq (l1_0.length : Int) x8_2 x9_3 l0_0 l0_1 l0_2 l1_0 l1_1 l1_2 x118000_3 x118001_3 x118002_3 = some (r1,r2,r3,r4)) ∧ Aside0 (kq ≤ k2) ∧ Aside0 (Kd.R (Kd.int .i64) 3 w' w.heap.size (fun k_ => some k_ ≠ (u118001 : Value).ownBlock ∧ some k_ ≠ (u118002 : Value).ownBlock) u118000 x118000_3) ∧ Aside0 (Kd.R (Kd.int .i64) 3 w' w.heap.size (fun k_ => some k_ ≠ (u118000 : Value).ownBlock ∧ some k_ ≠ (u118002 : Value).ownBlock) u118001 x118001_3) ∧ Aside0 (Kd.R (Kd.int .i64) 3 w' w.heap.size (fun k_ => some k_ ≠ (u118000 : Value).ownBlock ∧ some k_ ≠ (u118001 : Value).ownBlock) u118002 x118002_3) ∧ Aside0 (w'.heap[gb112]? = some (.cells #[(.slice A0_0 l0_0.length c0_0),(.slice A0_1 l0_1.length c0_1),(.slice A0_2 l0_2.length c0_2)] 25 (0,0))) ∧ Aside0 (w'.heap[gb113]? = some (.cells #[(.slice A1_0 l1_0.length c1_0),(.slice A1_1 l1_1.length c1_1),(.slice A1_2 l1_2.length c1_2)] 25 (0,0))) ∧ Aside0 (w'.heap[gb114]? = some (.cells #[(.slice none 0 0),(.slice none 0 0),(.slice none 0 0)] 25 (0,0))) ∧ Aside0 (w'.heap[gb117]? = some (.cells #[u118000,u118001,u118002] 25 (0,0))) ∧ Aside0 (Below w.heap.size w w'))
       case atStart => exact ⟨(0),(x118000_2),(x118001_2),(x118002_2),(u118000),(u118001),(u118002),(by first|rfl|(simp;done)|(simp [*];done)),H',⟨Nat.le_refl _⟩,⟨rU HO_118000.out⟩,⟨rU HO_118001.out⟩,⟨rU HO_118002.out⟩,⟨blkU BK112.out⟩,⟨blkU BK113.out⟩,⟨blkU BK114.out⟩,⟨blkU BK117.out⟩,⟨by repeat (first|(with_reducible first|exact HB.out|apply below_alloc|apply pw_below_drewN|apply below_drew1|refine below_set ?_ GE112.out|refine below_set ?_ GE113.out|refine below_set ?_ GE114.out|refine below_set ?_ GE117.out)|exact HB.out)⟩⟩
       case round =>
        clear H'
        try clear c1
        try clear c2
        try clear p2
        try clear c3
        try clear c4
        try clear p6
        try clear c8
        try clear c10
        try clear c11
        try clear c12
        try clear c14
        try clear c15
        try clear c20
        try clear c21
        try clear c24
        try clear c25
        try clear c27
        try clear c28
        try clear c31
        try clear c32
        try clear c33
        try clear c36
        try clear c37
        try clear c38
        try clear c40
        try clear c41
        try clear c43
        try clear c43b0
        try clear c44
        try clear c45
        try clear c46
        try clear hcz13_0
        try clear hcz13_1
        try clear hcz13_2
        try clear hcz16_0
        try clear hcz16_1
        try clear hcz16_2
        try clear hcz18_0
        try clear hcz18_1
        try clear hcz18_2
        try clear hcz19_0
        try clear hcz19_1
        try clear hcz19_2
        try clear hcz22_0
        try clear hcz22_1
        try clear hcz22_2
        try clear hcz25_0
        try clear hcz25_1
        try clear hcz25_2
        try clear hcz29_0
        try clear hcz29_1
        try clear hcz29_2
        try clear hcz34_0
        try clear hcz34_1
        try clear hcz34_2
        try clear hcz39_0
        try clear hcz39_1
        try clear hcz39_2
        try clear hcz42_0
        try clear hcz42_1
        try clear hcz42_2
        try clear hcz47_0
        try clear hcz47_1
        try clear hcz47_2
        try clear hfz13_0
        try clear hfz13_1
        try clear hfz13_2
        try clear hfz16_0
        try clear hfz16_1
        try clear hfz16_2
        try clear hfz18_0
        try clear hfz18_1
        try clear hfz18_2
        try clear hfz19_0
        try clear hfz19_1
        try clear hfz19_2
        try clear hfz22_0
        try clear hfz22_1
        try clear hfz22_2
        try clear hfz25_0
        try clear hfz25_1
        try clear hfz25_2
        try clear hfz29_0
        try clear hfz29_1
        try clear hfz29_2
        try clear hfz34_0
        try clear hfz34_1
        try clear hfz34_2
        try clear hfz39_0
        try clear hfz39_1
        try clear hfz39_2
        try clear hfz42_0
        try clear hfz42_1
        try clear hfz42_2
        try clear hfz47_0
        try clear hfz47_1
        try clear hfz47_2
        try clear p2
        try clear p6
        obtain ⟨x9_3,x118000_3,x118001_3,x118002_3,u118000,u118001,u118002,rfl,HA,HK3,HO_118000,HO_118001,HO_118002,BK112,BK113,BK114,BK117,HB⟩:=hrel
        cases gk with
        | zero => exact absurd HA.out (by simp [spec_MachineBoth.l1])
        | succ k3 =>
         have H:=HA.out;clear HA
         simp only [spec_MachineBoth.l1] at H
         by_cases c48 : x9_3 < (l1_0.length : Int)
         ·
          rw [if_pos c48] at H
          have c48b0 : decide (x9_3 < (l1_0.length : Int)) = true:=decide_eq_true c48;clear c48
          by_cases c49 : 0 ≤ x8_2
          ·
           rw [if_pos c49] at H
           have c49b0 : decide (0 ≤ x8_2) = true:=decide_eq_true c49;clear c49
           by_cases c50 : x8_2 < (l0_0.length : Int)
           ·
            rw [if_pos c50] at H
            have c50b0 : decide (x8_2 < (l0_0.length : Int)) = true:=decide_eq_true c50;clear c50
            by_cases c51 : 0 ≤ x9_3
            ·
             rw [if_pos c51] at H
             have c51b0 : decide (0 ≤ x9_3) = true:=decide_eq_true c51;clear c51
             by_cases c52 : x9_3 < (l1_0.length : Int)
             ·
              rw [if_pos c52] at H
              have c52b0 : decide (x9_3 < (l1_0.length : Int)) = true:=decide_eq_true c52;clear c52
              by_cases c53 : x118000_3.length < 17592186044416
              ·
               rw [if_pos c53] at H
               have LMc53:=Aside0.mk c53;clear c53
               obtain ⟨y120,hy120⟩ : ∃ y_ : List Int,y_ = (x118000_3 ++ [wrap64 ((wrap64 ((rd l0_0 x8_2) * (l1_0.length : Int))) + (rd l1_0 x9_3))]):=⟨_,rfl⟩
               replace H : (if x8_2 < (l0_1.length : Int) then (if x9_3 < (l1_1.length : Int) then (if x118001_3.length < 17592186044416 then (if x8_2 < (l0_2.length : Int) then (if x9_3 < (l1_2.length : Int) then (if x118002_3.length < 17592186044416 then (spec_MachineBoth.l1 k3 (l1_0.length : Int) x8_2 (wrap64 (x9_3 + 1)) l0_0 l0_1 l0_2 l1_0 l1_1 l1_2 y120 (x118001_3 ++ [wrap64 ((wrap64 ((rd l0_1 x8_2) * (l1_0.length : Int))) + (rd l1_1 x9_3))]) (x118002_3 ++ [wrap64 ((rd l0_2 x8_2) * (rd l1_2 x9_3))])) else (none)) else (none)) else (none)) else (none)) else (none)) else (none)) = some (r1,r2,r3,r4):=by first|(rw [hy120];with_reducible exact H)|(have H2_:=(Option.bind_some _ _).symm.trans H;rw [hy120];with_reducible exact H2_)|(have H2_:=(Option.bind_some _ _).symm.trans H;with_reducible exact H2_)|with_reducible exact H|(rw [hy120];exact H)|exact H
               have Ny120:=Aside0.mk hy120;clear hy120
               by_cases c54 : x8_2 < (l0_1.length : Int)
               ·
                rw [if_pos c54] at H
                have c54b0 : decide (x8_2 < (l0_1.length : Int)) = true:=decide_eq_true c54;clear c54
                by_cases c55 : x9_3 < (l1_1.length : Int)
                ·
                 rw [if_pos c55] at H
                 have c55b0 : decide (x9_3 < (l1_1.length : Int)) = true:=decide_eq_true c55;clear c55
                 by_cases c56 : x118001_3.length < 17592186044416
                 ·
                  rw [if_pos c56] at H
                  have LMc56:=Aside0.mk c56;clear c56
                  obtain ⟨y125,hy125⟩ : ∃ y_ : List Int,y_ = (x118001_3 ++ [wrap64 ((wrap64 ((rd l0_1 x8_2) * (l1_0.length : Int))) + (rd l1_1 x9_3))]):=⟨_,rfl⟩
                  replace H : (if x8_2 < (l0_2.length : Int) then (if x9_3 < (l1_2.length : Int) then (if x118002_3.length < 17592186044416 then (spec_MachineBoth.l1 k3 (l1_0.length : Int) x8_2 (wrap64 (x9_3 + 1)) l0_0 l0_1 l0_2 l1_0 l1_1 l1_2 y120 y125 (x118002_3 ++ [wrap64 ((rd l0_2 x8_2) * (rd l1_2 x9_3))])) else (none)) else (none)) else (none)) = some (r1,r2,r3,r4):=by first|(rw [hy125];with_reducible exact H)|(have H2_:=(Option.bind_some _ _).symm.trans H;rw [hy125];with_reducible exact H2_)|(have H2_:=(Option.bind_some _ _).symm.trans H;with_reducible exact H2_)|with_reducible exact H|(rw [hy125];exact H)|exact H
                  have Ny125:=Aside0.mk hy125;clear hy125
                  by_cases c57 : x8_2 < (l0_2.length : Int)
                  ·
                   rw [if_pos c57] at H
                   have c57b0 : decide (x8_2 < (l0_2.length : Int)) = true:=decide_eq_true c57;clear c57
                   by_cases c58 : x9_3 < (l1_2.length : Int)
                   ·
                    rw [if_pos c58] at H
                    have c58b0 : decide (x9_3 < (l1_2.length : Int)) = true:=decide_eq_true c58;clear c58
                    by_cases c59 : x118002_3.length < 17592186044416
                    ·
                     rw [if_pos c59] at H
                     have LMc59:=Aside0.mk c59;clear c59
                     obtain ⟨y130,hy130⟩ : ∃ y_ : List Int,y_ = (x118002_3 ++ [wrap64 ((rd l0_2 x8_2) * (rd l1_2 x9_3))]):=⟨_,rfl⟩
                     replace H : (spec_MachineBoth.l1 k3 (l1_0.length : Int) x8_2 (wrap64 (x9_3 + 1)) l0_0 l0_1 l0_2 l1_0 l1_1 l1_2 y120 y125 y130) = some (r1,r2,r3,r4):=by first|(rw [hy130];with_reducible exact H)|(have H2_:=(Option.bind_some _ _).symm.trans H;rw [hy130];with_reducible exact H2_)|(have H2_:=(Option.bind_some _ _).symm.trans H;with_reducible exact H2_)|with_reducible exact H|(rw [hy130];exact H)|exact H
                     have Ny130:=Aside0.mk hy130;clear hy130
                     have H':=Aside0.mk H;clear H
                     try go_wp2
                     have n0_:=Aside0.mk (Kd.R_drew HO_118000.out);have n1_:=Aside0.mk (Kd.R_drew HO_118001.out);have n2_:=Aside0.mk (Kd.R_drew HO_118002.out);have n3_:=Aside0.mk (blk_drew BK112.out);have n4_:=Aside0.mk (blk_drew BK113.out);have n5_:=Aside0.mk (blk_drew BK114.out);have n6_:=Aside0.mk (blk_drew BK117.out);have n7_:=Aside0.mk (below_drew1 HB.out);clear HO_118000 HO_118001 HO_118002 BK112 BK113 BK114 BK117 HB;have HO_118000:=n0_;have HO_118001:=n1_;have HO_118002:=n2_;have BK112:=n3_;have BK113:=n4_;have BK114:=n5_;have BK117:=n6_;have HB:=n7_;clear n0_ n1_ n2_ n3_ n4_ n5_ n6_ n7_
                     have p118 : 0 ≤ (x8_2 : Int):=of_decide_eq_true (by first|(with_reducible assumption)|assumption)
                     have q118 : x8_2 < (l0_0.length : Int):=of_decide_eq_true (by first|(with_reducible assumption)|assumption)
                     obtain ⟨ad118,e118,hx118_0⟩:=Kd.at_int HR0_0.out x8_2 p118 q118;have hw118_0:=hx118_0
                     cases e118
                     replace hx118_0:=(HB.out.cell (World.block_lt_of_cell? w _ hx118_0)).trans hx118_0
                     replace p118:=eq_true p118
                     replace q118:=eq_true q118
                     have p119 : 0 ≤ (x9_3 : Int):=of_decide_eq_true (by first|(with_reducible assumption)|assumption)
                     have q119 : x9_3 < (l1_0.length : Int):=of_decide_eq_true (by first|(with_reducible assumption)|assumption)
                     obtain ⟨ad119,e119,hx119_0⟩:=Kd.at_int HR1_0.out x9_3 p119 q119;have hw119_0:=hx119_0
                     cases e119
                     replace hx119_0:=(HB.out.cell (World.block_lt_of_cell? w _ hx119_0)).trans hx119_0
                     replace p119:=eq_true p119
                     replace q119:=eq_true q119
                     refine start_ (n:=19) (S:=fun w' => w'.cell? ⟨gb117,0,none⟩ = some (u118000) ∧ w'.cell? ⟨gb117,1,none⟩ = some (u118001) ∧ w'.cell? ⟨gb117,2,none⟩ = some (u118002) ∧ w'.cell? ⟨gb112,0,none⟩ = some (.slice (some ad118) l0_0.length c0_0) ∧ w'.cell? ⟨gb112,1,none⟩ = some (.slice A0_1 l0_1.length c0_1) ∧ w'.cell? ⟨gb112,2,none⟩ = some (.slice A0_2 l0_2.length c0_2) ∧ w'.cell? ⟨gb113,0,none⟩ = some (.slice (some ad119) l1_0.length c1_0) ∧ w'.cell? ⟨gb113,1,none⟩ = some (.slice A1_1 l1_1.length c1_1) ∧ w'.cell? ⟨gb113,2,none⟩ = some (.slice A1_2 l1_2.length c1_2) ∧ w'.cell? (ad118.add (x8_2).toNat) = some (.int .i64 (rd l0_0 x8_2)) ∧ w'.cell? (ad119.add (x9_3).toNat) = some (.int .i64 (rd l1_0 x9_3))) (ds:=[18]) #[false,false,false,false,false,false,false,false,false,false,false,false,false,false,false,false,false,false,false] (by kernel_rfl) rfl rfl ⟨(blk_cell BK117.out 0).trans rfl,(blk_cell BK117.out 1).trans rfl,(blk_cell BK117.out 2).trans rfl,(blk_cell BK112.out 0).trans rfl,(blk_cell BK112.out 1).trans rfl,(blk_cell BK112.out 2).trans rfl,(blk_cell BK113.out 0).trans rfl,(blk_cell BK113.out 1).trans rfl,(blk_cell BK113.out 2).trans rfl,((HB.out.cell (World.block_lt_of_cell? w _ hw118_0)).trans hw118_0),((HB.out.cell (World.block_lt_of_cell? w _ hw119_0)).trans hw119_0)⟩ (fun hHeld => ?_);refine with_tabW spec_MachineBoth.tab11 spec_MachineBoth.bits11 (fun HT_ HW_ => ?_)
                     generalize wr.drew = w60 at HO_118000 HO_118001 HO_118002 BK112 BK113 BK114 BK117 HB hx118_0 hx119_0 hHeld ⊢
                     refine pure_ (i:=0) (N:=some 45) (v:=?_) (a':=?_) #[true,false,false,false,false,false,false,false,false,false,false,false,false,false,false,false,false,false,false] rfl rfl (any_of HT_.out (by kernel_rfl)) (fun _ _ _ h => h) (Or.inl ⟨by rfl,?_⟩) ?_ ?_;rotate_left
                     ·
                      intro w'
                      go_simp
                      with_reducible rfl
                     rotate_left
                     ·
                      simp only [Act.put,List.setIfInBounds_toArray,List.set_cons_zero,List.set_cons_succ,i64_w,i32_w]
                      rfl
                     refine pure_ (i:=2) (N:=some 47) (v:=?_) (a':=?_) #[true,false,true,false,false,false,false,false,false,false,false,false,false,false,false,false,false,false,false] rfl rfl (any_of HT_.out (by kernel_rfl)) (fun _ _ _ h => h) (Or.inl ⟨by rfl,?_⟩) ?_ ?_;rotate_left
                     ·
                      intro w'
                      go_simp
                      with_reducible rfl
                     rotate_left
                     ·
                      simp only [Act.put,List.setIfInBounds_toArray,List.set_cons_zero,List.set_cons_succ,i64_w,i32_w]
                      rfl
                     refine pure_ (i:=4) (N:=some 49) (v:=?_) (a':=?_) #[true,false,true,false,true,false,false,false,false,false,false,false,false,false,false,false,false,false,false] rfl rfl (any_of HT_.out (by kernel_rfl)) (fun _ _ _ h => h) (Or.inl ⟨by rfl,?_⟩) ?_ ?_;rotate_left
                     ·
                      intro w'
                      go_simp
                      with_reducible rfl
                     rotate_left
                     ·
                      simp only [Act.put,List.setIfInBounds_toArray,List.set_cons_zero,List.set_cons_succ,i64_w,i32_w]
                      rfl
                     refine pure_ (i:=7) (N:=some 52) (v:=?_) (a':=?_) #[true,false,true,false,true,false,false,true,false,false,false,false,false,false,false,false,false,false,false] rfl rfl (any_of HT_.out (by kernel_rfl)) (fun _ _ _ h => h) (Or.inl ⟨by rfl,?_⟩) ?_ ?_;rotate_left
                     ·
                      intro w'
                      go_simp
                      with_reducible rfl
                     rotate_left
                     ·
                      simp only [Act.put,List.setIfInBounds_toArray,List.set_cons_zero,List.set_cons_succ,i64_w,i32_w]
                      rfl
                     refine pure_ (i:=9) (N:=some 54) (v:=?_) (a':=?_) #[true,false,true,false,true,false,false,true,false,true,false,false,false,false,false,false,false,false,false] rfl rfl (any_of HT_.out (by kernel_rfl)) (fun _ _ _ h => h) (Or.inl ⟨by rfl,?_⟩) ?_ ?_;rotate_left
                     ·
                      intro w'
                      go_simp
                      with_reducible rfl
                     rotate_left
                     ·
                      simp only [Act.put,List.setIfInBounds_toArray,List.set_cons_zero,List.set_cons_succ,i64_w,i32_w]
                      rfl
                     refine pure_ (i:=11) (N:=some 56) (v:=?_) (a':=?_) #[true,false,true,false,true,false,false,true,false,true,false,true,false,false,false,false,false,false,false] rfl rfl (any_of HT_.out (by kernel_rfl)) (fun _ _ _ h => h) (Or.inl ⟨by rfl,?_⟩) ?_ ?_;rotate_left
                     ·
                      intro w'
                      go_simp
                      with_reducible rfl
                     rotate_left
                     ·
                      simp only [Act.put,List.setIfInBounds_toArray,List.set_cons_zero,List.set_cons_succ,i64_w,i32_w]
                      rfl
                     refine take_ (i:=1) (N:=some 46) (v:=?_) (a':=?_) #[true,true,true,false,true,false,false,true,false,true,false,true,false,false,false,false,false,false,false] rfl rfl (take_ofW HT_.out HW_.out (by kernel_rfl)) (fun _ _ _ h => h) (Or.inl ⟨by rfl,?_⟩) hHeld ?_ ?_;rotate_left
                     ·
                      rintro w' ⟨s0,s1,s2,s3,s4,s5,s6,s7,s8,s9,s10⟩
                      go_simp
                      with_reducible rfl
                     rotate_left
                     ·
                      simp only [Act.put,List.setIfInBounds_toArray,List.set_cons_zero,List.set_cons_succ,i64_w,i32_w]
                      rfl
                     refine take_ (i:=3) (N:=some 48) (v:=?_) (a':=?_) #[true,true,true,true,true,false,false,true,false,true,false,true,false,false,false,false,false,false,false] rfl rfl (take_ofW HT_.out HW_.out (by kernel_rfl)) (fun _ _ _ h => h) (Or.inl ⟨by rfl,?_⟩) hHeld ?_ ?_;rotate_left
                     ·
                      rintro w' ⟨s0,s1,s2,s3,s4,s5,s6,s7,s8,s9,s10⟩
                      go_simp
                      with_reducible rfl
                     rotate_left
                     ·
                      simp only [Act.put,List.setIfInBounds_toArray,List.set_cons_zero,List.set_cons_succ,i64_w,i32_w]
                      rfl
                     refine pure_ (i:=5) (N:=some 50) (v:=?_) (a':=?_) #[true,true,true,true,true,true,false,true,false,true,false,true,false,false,false,false,false,false,false] rfl rfl (any_of HT_.out (by kernel_rfl)) (fun _ _ _ h => h) (Or.inl ⟨by rfl,?_⟩) ?_ ?_;rotate_left
                     ·
                      intro w'
                      go_simp
                      with_reducible rfl
                     rotate_left
                     ·
                      simp only [Act.put,List.setIfInBounds_toArray,List.set_cons_zero,List.set_cons_succ,i64_w,i32_w]
                      rfl
                     refine take_ (i:=6) (N:=some 51) (v:=?_) (a':=?_) #[true,true,true,true,true,true,true,true,false,true,false,true,false,false,false,false,false,false,false] rfl rfl (take_ofW HT_.out HW_.out (by kernel_rfl)) (fun _ _ _ h => h) (Or.inl ⟨by rfl,?_⟩) hHeld ?_ ?_;rotate_left
                     ·
                      rintro w' ⟨s0,s1,s2,s3,s4,s5,s6,s7,s8,s9,s10⟩
                      go_simp
                      with_reducible rfl
                     rotate_left
                     ·
                      simp only [Act.put,List.setIfInBounds_toArray,List.set_cons_zero,List.set_cons_succ,i64_w,i32_w]
                      rfl
                     refine pure_ (i:=8) (N:=some 53) (v:=?_) (a':=?_) #[true,true,true,true,true,true,true,true,true,true,false,true,false,false,false,false,false,false,false] rfl rfl (any_of HT_.out (by kernel_rfl)) (fun _ _ _ h => h) (Or.inl ⟨by rfl,?_⟩) ?_ ?_;rotate_left
                     ·
                      intro w'
                      go_simp
                      with_reducible rfl
                     rotate_left
                     ·
                      simp only [Act.put,List.setIfInBounds_toArray,List.set_cons_zero,List.set_cons_succ,i64_w,i32_w]
                      rfl
                     refine take_ (i:=10) (N:=some 55) (v:=?_) (a':=?_) #[true,true,true,true,true,true,true,true,true,true,true,true,false,false,false,false,false,false,false] rfl rfl (take_ofW HT_.out HW_.out (by kernel_rfl)) (fun _ _ _ h => h) (Or.inl ⟨by rfl,?_⟩) hHeld ?_ ?_;rotate_left
                     ·
                      rintro w' ⟨s0,s1,s2,s3,s4,s5,s6,s7,s8,s9,s10⟩
                      go_simp
                      with_reducible rfl
                     rotate_left
                     ·
                      simp only [Act.put,List.setIfInBounds_toArray,List.set_cons_zero,List.set_cons_succ,i64_w,i32_w]
                      rfl
                     refine pure_ (i:=12) (N:=some 57) (v:=?_) (a':=?_) #[true,true,true,true,true,true,true,true,true,true,true,true,true,false,false,false,false,false,false] rfl rfl (any_of HT_.out (by kernel_rfl)) (fun _ _ _ h => h) (Or.inl ⟨by rfl,?_⟩) ?_ ?_;rotate_left
                     ·
                      intro w'
                      go_simp
                      with_reducible rfl
                     rotate_left
                     ·
                      simp only [Act.put,List.setIfInBounds_toArray,List.set_cons_zero,List.set_cons_succ,i64_w,i32_w]
                      rfl
                     refine take_ (i:=13) (N:=some 58) (v:=?_) (a':=?_) #[true,true,true,true,true,true,true,true,true,true,true,true,true,true,false,false,false,false,false] rfl rfl (take_ofW HT_.out HW_.out (by kernel_rfl)) (fun _ _ _ h => h) (Or.inl ⟨by rfl,?_⟩) hHeld ?_ ?_;rotate_left
                     ·
                      rintro w' ⟨s0,s1,s2,s3,s4,s5,s6,s7,s8,s9,s10⟩
                      go_simp
                      with_reducible rfl
                     rotate_left
                     ·
                      simp only [Act.put,List.setIfInBounds_toArray,List.set_cons_zero,List.set_cons_succ,i64_w,i32_w]
                      rfl
                     refine pure_ (i:=14) (N:=some 59) (v:=?_) (a':=?_) #[true,true,true,true,true,true,true,true,true,true,true,true,true,true,true,false,false,false,false] rfl rfl (any_of HT_.out (by kernel_rfl)) (fun _ _ _ h => h) (Or.inl ⟨by rfl,?_⟩) ?_ ?_;rotate_left
                     ·
                      intro w'
                      go_simp
                      with_reducible rfl
                     rotate_left
                     ·
                      simp only [Act.put,List.setIfInBounds_toArray,List.set_cons_zero,List.set_cons_succ,i64_w,i32_w]
                      rfl
                     refine one_ (i:=15) (N:=some 60) #[true,true,true,true,true,true,true,true,true,true,true,true,true,true,true,true,false,false,false] rfl rfl (one_of HT_.out (by kernel_rfl)) (by decide) (fun K hK => ?_)
                     refine value_ (w1:=?_) (v:=?_) (by rfl) rfl ?_ ?_
                     rotate_left 2
                     ·
                      go_simp
                      constructor
                      ·
                       rfl
                      ·
                       rfl
                     refine hK.out _ _ ⟨(blk_cell (blk_alloc BK117.out _) 0).trans rfl,(blk_cell (blk_alloc BK117.out _) 1).trans rfl,(blk_cell (blk_alloc BK117.out _) 2).trans rfl,(blk_cell (blk_alloc BK112.out _) 0).trans rfl,(blk_cell (blk_alloc BK112.out _) 1).trans rfl,(blk_cell (blk_alloc BK112.out _) 2).trans rfl,(blk_cell (blk_alloc BK113.out _) 0).trans rfl,(blk_cell (blk_alloc BK113.out _) 1).trans rfl,(blk_cell (blk_alloc BK113.out _) 2).trans rfl,(World.cell?_alloc_lt _ _ _ (World.block_lt_of_cell? _ _ (((HB.out.cell (World.block_lt_of_cell? w _ hw118_0)).trans hw118_0)))).trans (((HB.out.cell (World.block_lt_of_cell? w _ hw118_0)).trans hw118_0)),(World.cell?_alloc_lt _ _ _ (World.block_lt_of_cell? _ _ (((HB.out.cell (World.block_lt_of_cell? w _ hw119_0)).trans hw119_0)))).trans (((HB.out.cell (World.block_lt_of_cell? w _ hw119_0)).trans hw119_0))⟩ (fun hHeld => ?_);clear hK K
                     refine norm_ (a':=?_) ?_ ?_;rotate_left
                     ·
                      show Act.put _ (some 60) _ = _
                      simp only [Act.put,List.setIfInBounds_toArray,List.set_cons_zero,List.set_cons_succ,i64_w,i32_w]
                      rfl
                     refine one_ (i:=16) (N:=some 61) #[true,true,true,true,true,true,true,true,true,true,true,true,true,true,true,true,true,false,false] rfl rfl (one_of HT_.out (by kernel_rfl)) (by decide) (fun K hK => ?_)
                     refine Kd.R_append_step (Kd.int .i64) (w0:=w) w.heap.size (by rfl) (.tmp 46) (.tmp 60) 23 3 (.int .i64 0) 8 rfl Tryd.underlying23 info3 rfl (by decide) (by omega) u118000 x118000_3 (wrap64 ((wrap64 ((rd l0_0 x8_2) * (l1_0.length : Int))) + (rd l1_0 x9_3))) [.int .i64 (wrap64 ((wrap64 ((rd l0_0 x8_2) * (l1_0.length : Int))) + (rd l1_0 x9_3)))] (fun k_ => some k_ ≠ (u118001 : Value).ownBlock ∧ some k_ ≠ (u118002 : Value).ownBlock) (fun _ => False) rfl rfl ?aP (fun _ hk => hk.elim) ?aF ?aO ?aB ?aS ?aL ?_
                     (case aP => exact rfl)
                     (case aB => exact (by repeat (first|(with_reducible first|exact HB.out|apply below_alloc|apply pw_below_drewN|apply below_drew1|refine below_set ?_ GE112.out|refine below_set ?_ GE113.out|refine below_set ?_ GE114.out|refine below_set ?_ GE117.out)|exact HB.out)))
                     (case aF => exact (fun k_ hk => ⟨Kd.fresh' (Kd.R_lt (rU HO_118001.out)) k_ hk,Kd.fresh' (Kd.R_lt (rU HO_118002.out)) k_ hk⟩))
                     (case aO => exact (rU HO_118000.out))
                     (case aS => exact (below_size (by repeat (first|(with_reducible first|exact HB.out|apply below_alloc|apply pw_below_drewN|apply below_drew1|refine below_set ?_ GE112.out|refine below_set ?_ GE113.out|refine below_set ?_ GE114.out|refine below_set ?_ GE117.out)|exact HB.out))))
                     (case aL => have:=LMc53.out;omega);intro v121 w61 ho hb hg hat
                     rw [← Ny120.out] at ho;have n0_:=Aside0.mk (Kd.R_after (ok:=(fun k_ => some k_ ≠ (u118002 : Value).ownBlock)) (by (with_reducible repeat (first|apply Kd.R_alloc|apply Kd.R_drewN|apply Kd.R_drew));exact Kd.R_mono HO_118001.out (fun _ hk => ⟨hk.2,hk.1⟩)) hg hat);have n1_:=Aside0.mk (Kd.R_after (ok:=(fun k_ => some k_ ≠ (u118001 : Value).ownBlock)) (by (with_reducible repeat (first|apply Kd.R_alloc|apply Kd.R_drewN|apply Kd.R_drew));exact Kd.R_mono HO_118002.out (fun _ hk => ⟨hk.2,hk.1⟩)) hg hat);have n2_:=Aside0.mk (blk_grown (g:=gb112) (o:=.cells #[.slice (some ad118) l0_0.length c0_0,.slice A0_1 l0_1.length c0_1,.slice A0_2 l0_2.length c0_2] 25 (0,0)) (blkU BK112.out) hg (Kd.R_ne HO_118000.out BK112.out (by decide)));have n3_:=Aside0.mk (blk_grown (g:=gb113) (o:=.cells #[.slice (some ad119) l1_0.length c1_0,.slice A1_1 l1_1.length c1_1,.slice A1_2 l1_2.length c1_2] 25 (0,0)) (blkU BK113.out) hg (Kd.R_ne HO_118000.out BK113.out (by decide)));have n4_:=Aside0.mk (blk_grown (g:=gb114) (o:=.cells #[.slice none 0 0,.slice none 0 0,.slice none 0 0] 25 (0,0)) (blkU BK114.out) hg (Kd.R_ne HO_118000.out BK114.out (by decide)))
                     have n5_:=Aside0.mk (blk_grown (g:=gb117) (o:=.cells #[u118000,u118001,u118002] 25 (0,0)) (blkU BK117.out) hg (Kd.R_ne HO_118000.out BK117.out (by decide)));have n6_:=Aside0.mk (hb);have n7_:=Aside0.mk (ho);clear HO_118001 HO_118002 BK112 BK113 BK114 BK117 HB HO_118000;have HO_118001:=n0_;have HO_118002:=n1_;have BK112:=n2_;have BK113:=n3_;have BK114:=n4_;have BK117:=n5_;have HB:=n6_;have HO122:=n7_;clear n0_ n1_ n2_ n3_ n4_ n5_ n6_ n7_ ho hb hg hat
                     obtain ⟨Ao62,co62,eo62⟩:=Kd.R_slice HO122.out
                     (first|subst eo62|(injection eo62 with f1_ f2_ f3_;have f4_:=f1_.symm;have f5_:=f3_.symm;clear f1_ f2_ f3_;subst f4_;subst f5_))
                     refine hK.out _ _ ⟨(blk_cell BK117.out 0).trans rfl,(blk_cell BK117.out 1).trans rfl,(blk_cell BK117.out 2).trans rfl,(blk_cell BK112.out 0).trans rfl,(blk_cell BK112.out 1).trans rfl,(blk_cell BK112.out 2).trans rfl,(blk_cell BK113.out 0).trans rfl,(blk_cell BK113.out 1).trans rfl,(blk_cell BK113.out 2).trans rfl,((HB.out.cell (World.block_lt_of_cell? w _ hw118_0)).trans hw118_0),((HB.out.cell (World.block_lt_of_cell? w _ hw119_0)).trans hw119_0)⟩ (fun hHeld => ?_);clear hK K
                     refine norm_ (a':=?_) ?_ ?_;rotate_left
                     ·
                      show Act.put _ (some 61) _ = _
                      simp only [Act.put,List.setIfInBounds_toArray,List.set_cons_zero,List.set_cons_succ,i64_w,i32_w]
                      rfl
                     refine pure_ (i:=17) (N:=some 62) (v:=?_) (a':=?_) #[true,true,true,true,true,true,true,true,true,true,true,true,true,true,true,true,true,true,false] rfl rfl (any_of HT_.out (by kernel_rfl)) (fun _ _ _ h => h) (Or.inl ⟨by rfl,?_⟩) ?_ ?_;rotate_left
                     ·
                      intro w'
                      go_simp
                      with_reducible rfl
                     rotate_left
                     ·
                      simp only [Act.put,List.setIfInBounds_toArray,List.set_cons_zero,List.set_cons_succ,i64_w,i32_w]
                      rfl
                     refine last_ (i:=18) (N:=none) #[true,true,true,true,true,true,true,true,true,true,true,true,true,true,true,true,true,true,true] rfl rfl (one_of HT_.out (by kernel_rfl)) (by decide) (fun K hK => ?_)
                     have hs63 : w61.cell? ⟨gb117,0,none⟩ = some (u118000):=(blk_cell BK117.out 0).trans rfl
                     have hfs63:=blk_frozen BK117.out 0;have hns63_0:=NB112_117.out;have hns63_1:=NB113_117.out;have hns63_2:=NB114_117.out;have hms63_0:=NB117_112.out;have hms63_1:=NB117_113.out;have hms63_2:=NB117_114.out
                     refine skip_ (w1:=?_) (by rfl) rfl ?_ ?_;rotate_left
                     ·
                      go_simp
                      rfl
                     refine hK.out _ _ ?_;clear hK K
                     refine done_ (done_of HT_.out (by kernel_rfl)) ?_
                     try go_wp2
                     have n0_ : Aside0 (Kd.R (Kd.int .i64) 3 (w61.setCell ⟨gb117,0,none⟩ (.slice Ao62 y120.length co62)) w.heap.size (fun k_ => some k_ ≠ (u118002 : Value).ownBlock ∧ some k_ ≠ (.slice Ao62 y120.length co62 : Value).ownBlock) u118001 x118001_3):=⟨by (with_reducible repeat (first|apply Kd.R_alloc|apply Kd.R_drewN|apply Kd.R_drew));exact Kd.R_mono (Kd.R_far (p:=⟨gb117,0,none⟩) (Kd.R_types HO_118001.out BK117.out (by decide)) (fun _ hk => hk.2) (.slice Ao62 y120.length co62)) (fun _ hk => ⟨hk.1.1,hk.1.2⟩)⟩
                     have n1_ : Aside0 (Kd.R (Kd.int .i64) 3 (w61.setCell ⟨gb117,0,none⟩ (.slice Ao62 y120.length co62)) w.heap.size (fun k_ => some k_ ≠ (u118001 : Value).ownBlock ∧ some k_ ≠ (.slice Ao62 y120.length co62 : Value).ownBlock) u118002 x118002_3):=⟨by (with_reducible repeat (first|apply Kd.R_alloc|apply Kd.R_drewN|apply Kd.R_drew));exact Kd.R_mono (Kd.R_far (p:=⟨gb117,0,none⟩) (Kd.R_types HO_118002.out BK117.out (by decide)) (fun _ hk => hk.2) (.slice Ao62 y120.length co62)) (fun _ hk => ⟨hk.1.1,hk.1.2⟩)⟩
                     have n2_ : Aside0 (Kd.R (Kd.int .i64) 3 (w61.setCell ⟨gb117,0,none⟩ (.slice Ao62 y120.length co62)) w.heap.size (fun k_ => some k_ ≠ (u118001 : Value).ownBlock ∧ some k_ ≠ (u118002 : Value).ownBlock) (.slice Ao62 y120.length co62) y120):=⟨by (with_reducible repeat (first|apply Kd.R_alloc|apply Kd.R_drewN|apply Kd.R_drew));exact Kd.R_mono (Kd.R_far (p:=⟨gb117,0,none⟩) (Kd.R_types HO122.out BK117.out (by decide)) (fun _ hk => hk.2) (.slice Ao62 y120.length co62)) (fun _ hk => ⟨hk.1.1,hk.1.2⟩)⟩
                     have n3_ : Aside0 ((w61.setCell ⟨gb117,0,none⟩ (.slice Ao62 y120.length co62)).heap[gb112]? = some (.cells #[.slice (some ad118) l0_0.length c0_0,.slice A0_1 l0_1.length c0_1,.slice A0_2 l0_2.length c0_2] 25 (0,0))):=⟨by (with_reducible repeat (first|refine blk_drewN ?_ _|refine blk_drew ?_|refine blk_alloc ?_ _));refine blk_far ?_ NB112_117.out _;(with_reducible repeat (first|refine blk_drewN ?_ _|refine blk_drew ?_|refine blk_alloc ?_ _));exact BK112.out⟩
                     have n4_ : Aside0 ((w61.setCell ⟨gb117,0,none⟩ (.slice Ao62 y120.length co62)).heap[gb113]? = some (.cells #[.slice (some ad119) l1_0.length c1_0,.slice A1_1 l1_1.length c1_1,.slice A1_2 l1_2.length c1_2] 25 (0,0))):=⟨by (with_reducible repeat (first|refine blk_drewN ?_ _|refine blk_drew ?_|refine blk_alloc ?_ _));refine blk_far ?_ NB113_117.out _;(with_reducible repeat (first|refine blk_drewN ?_ _|refine blk_drew ?_|refine blk_alloc ?_ _));exact BK113.out⟩
                     have n5_ : Aside0 ((w61.setCell ⟨gb117,0,none⟩ (.slice Ao62 y120.length co62)).heap[gb114]? = some (.cells #[.slice none 0 0,.slice none 0 0,.slice none 0 0] 25 (0,0))):=⟨by (with_reducible repeat (first|refine blk_drewN ?_ _|refine blk_drew ?_|refine blk_alloc ?_ _));refine blk_far ?_ NB114_117.out _;(with_reducible repeat (first|refine blk_drewN ?_ _|refine blk_drew ?_|refine blk_alloc ?_ _));exact BK114.out⟩
                     have n6_ : Aside0 ((w61.setCell ⟨gb117,0,none⟩ (.slice Ao62 y120.length co62)).heap[gb117]? = some (.cells #[.slice Ao62 y120.length co62,u118001,u118002] 25 (0,0))):=⟨by (with_reducible repeat (first|refine blk_drewN ?_ _|refine blk_drew ?_|refine blk_alloc ?_ _));refine blk_put (cs:=#[u118000,u118001,u118002]) ?_ 0 _ rfl;(with_reducible repeat (first|refine blk_drewN ?_ _|refine blk_drew ?_|refine blk_alloc ?_ _));exact BK117.out⟩
                     have n7_ : Aside0 (Below w.heap.size w (w61.setCell ⟨gb117,0,none⟩ (.slice Ao62 y120.length co62))):=⟨by repeat (first|(with_reducible first|exact HB.out|apply below_alloc|apply pw_below_drewN|apply below_drew1|refine below_set ?_ GE112.out|refine below_set ?_ GE113.out|refine below_set ?_ GE114.out|refine below_set ?_ GE117.out)|exact HB.out)⟩
                     (try clear HO_118001)
                     (try clear HO_118002)
                     (try clear HO122)
                     (try clear BK112)
                     (try clear BK113)
                     (try clear BK114)
                     (try clear BK117)
                     (try clear HB)
                     generalize (w61.setCell ⟨gb117,0,none⟩ (.slice Ao62 y120.length co62)) = w64 at n0_ n1_ n2_ n3_ n4_ n5_ n6_ n7_ ⊢;have HO_118001:=n0_;have HO_118002:=n1_;have HO122:=n2_;have BK112:=n3_;have BK113:=n4_;have BK114:=n5_;have BK117:=n6_;have HB:=n7_;clear n0_ n1_ n2_ n3_ n4_ n5_ n6_ n7_;have n0_:=Aside0.mk (Kd.R_drew HO_118001.out);have n1_:=Aside0.mk (Kd.R_drew HO_118002.out);have n2_:=Aside0.mk (Kd.R_drew HO122.out);have n3_:=Aside0.mk (blk_drew BK112.out);have n4_:=Aside0.mk (blk_drew BK113.out);have n5_:=Aside0.mk (blk_drew BK114.out);have n6_:=Aside0.mk (blk_drew BK117.out);have n7_:=Aside0.mk (below_drew1 HB.out);clear HO_118001 HO_118002 HO122 BK112 BK113 BK114 BK117 HB;have HO_118001:=n0_;have HO_118002:=n1_;have HO122:=n2_;have BK112:=n3_;have BK113:=n4_;have BK114:=n5_;have BK117:=n6_;have HB:=n7_;clear n0_ n1_ n2_ n3_ n4_ n5_ n6_ n7_
                     have p123 : 0 ≤ (x8_2 : Int):=of_decide_eq_true (by first|(with_reducible assumption)|assumption)
                     have q123 : x8_2 < (l0_1.length : Int):=of_decide_eq_true (by first|(with_reducible assumption)|assumption)
                     obtain ⟨ad123,e123,hx123_0⟩:=Kd.at_int HR0_1.out x8_2 p123 q123;have hw123_0:=hx123_0
                     cases e123
                     replace hx123_0:=(HB.out.cell (World.block_lt_of_cell? w _ hx123_0)).trans hx123_0
                     replace p123:=eq_true p123
                     replace q123:=eq_true q123
                     have p124 : 0 ≤ (x9_3 : Int):=of_decide_eq_true (by first|(with_reducible assumption)|assumption)
                     have q124 : x9_3 < (l1_1.length : Int):=of_decide_eq_true (by first|(with_reducible assumption)|assumption)
                     obtain ⟨ad124,e124,hx124_0⟩:=Kd.at_int HR1_1.out x9_3 p124 q124;have hw124_0:=hx124_0
                     cases e124
                     replace hx124_0:=(HB.out.cell (World.block_lt_of_cell? w _ hx124_0)).trans hx124_0
                     replace p124:=eq_true p124
                     replace q124:=eq_true q124
                     refine start_ (n:=19) (S:=fun w' => w'.cell? ⟨gb117,0,none⟩ = some (.slice Ao62 y120.length co62) ∧ w'.cell? ⟨gb117,1,none⟩ = some (u118001) ∧ w'.cell? ⟨gb117,2,none⟩ = some (u118002) ∧ w'.cell? ⟨gb112,0,none⟩ = some (.slice (some ad118) l0_0.length c0_0) ∧ w'.cell? ⟨gb112,1,none⟩ = some (.slice (some ad123) l0_1.length c0_1) ∧ w'.cell? ⟨gb112,2,none⟩ = some (.slice A0_2 l0_2.length c0_2) ∧ w'.cell? ⟨gb113,0,none⟩ = some (.slice (some ad119) l1_0.length c1_0) ∧ w'.cell? ⟨gb113,1,none⟩ = some (.slice (some ad124) l1_1.length c1_1) ∧ w'.cell? ⟨gb113,2,none⟩ = some (.slice A1_2 l1_2.length c1_2) ∧ w'.cell? (ad123.add (x8_2).toNat) = some (.int .i64 (rd l0_1 x8_2)) ∧ w'.cell? (ad124.add (x9_3).toNat) = some (.int .i64 (rd l1_1 x9_3))) (ds:=[18]) #[false,false,false,false,false,false,false,false,false,false,false,false,false,false,false,false,false,false,false] (by kernel_rfl) rfl rfl ⟨(blk_cell BK117.out 0).trans rfl,(blk_cell BK117.out 1).trans rfl,(blk_cell BK117.out 2).trans rfl,(blk_cell BK112.out 0).trans rfl,(blk_cell BK112.out 1).trans rfl,(blk_cell BK112.out 2).trans rfl,(blk_cell BK113.out 0).trans rfl,(blk_cell BK113.out 1).trans rfl,(blk_cell BK113.out 2).trans rfl,((HB.out.cell (World.block_lt_of_cell? w _ hw123_0)).trans hw123_0),((HB.out.cell (World.block_lt_of_cell? w _ hw124_0)).trans hw124_0)⟩ (fun hHeld => ?_);refine with_tabW spec_MachineBoth.tab12 spec_MachineBoth.bits12 (fun HT_ HW_ => ?_)
                     generalize w64.drew = w65 at HO_118001 HO_118002 HO122 BK112 BK113 BK114 BK117 HB hx123_0 hx124_0 hHeld ⊢
                     refine pure_ (i:=0) (N:=some 63) (v:=?_) (a':=?_) #[true,false,false,false,false,false,false,false,false,false,false,false,false,false,false,false,false,false,false] rfl rfl (any_of HT_.out (by kernel_rfl)) (fun _ _ _ h => h) (Or.inl ⟨by rfl,?_⟩) ?_ ?_;rotate_left
                     ·
                      intro w'
                      go_simp
                      with_reducible rfl
                     rotate_left
                     ·
                      simp only [Act.put,List.setIfInBounds_toArray,List.set_cons_zero,List.set_cons_succ,i64_w,i32_w]
                      rfl
                     refine pure_ (i:=2) (N:=some 65) (v:=?_) (a':=?_) #[true,false,true,false,false,false,false,false,false,false,false,false,false,false,false,false,false,false,false] rfl rfl (any_of HT_.out (by kernel_rfl)) (fun _ _ _ h => h) (Or.inl ⟨by rfl,?_⟩) ?_ ?_;rotate_left
                     ·
                      intro w'
                      go_simp
                      with_reducible rfl
                     rotate_left
                     ·
                      simp only [Act.put,List.setIfInBounds_toArray,List.set_cons_zero,List.set_cons_succ,i64_w,i32_w]
                      rfl
                     refine pure_ (i:=4) (N:=some 67) (v:=?_) (a':=?_) #[true,false,true,false,true,false,false,false,false,false,false,false,false,false,false,false,false,false,false] rfl rfl (any_of HT_.out (by kernel_rfl)) (fun _ _ _ h => h) (Or.inl ⟨by rfl,?_⟩) ?_ ?_;rotate_left
                     ·
                      intro w'
                      go_simp
                      with_reducible rfl
                     rotate_left
                     ·
                      simp only [Act.put,List.setIfInBounds_toArray,List.set_cons_zero,List.set_cons_succ,i64_w,i32_w]
                      rfl
                     refine pure_ (i:=7) (N:=some 70) (v:=?_) (a':=?_) #[true,false,true,false,true,false,false,true,false,false,false,false,false,false,false,false,false,false,false] rfl rfl (any_of HT_.out (by kernel_rfl)) (fun _ _ _ h => h) (Or.inl ⟨by rfl,?_⟩) ?_ ?_;rotate_left
                     ·
                      intro w'
                      go_simp
                      with_reducible rfl
                     rotate_left
                     ·
                      simp only [Act.put,List.setIfInBounds_toArray,List.set_cons_zero,List.set_cons_succ,i64_w,i32_w]
                      rfl
                     refine pure_ (i:=9) (N:=some 72) (v:=?_) (a':=?_) #[true,false,true,false,true,false,false,true,false,true,false,false,false,false,false,false,false,false,false] rfl rfl (any_of HT_.out (by kernel_rfl)) (fun _ _ _ h => h) (Or.inl ⟨by rfl,?_⟩) ?_ ?_;rotate_left
                     ·
                      intro w'
                      go_simp
                      with_reducible rfl
                     rotate_left
                     ·
                      simp only [Act.put,List.setIfInBounds_toArray,List.set_cons_zero,List.set_cons_succ,i64_w,i32_w]
                      rfl
                     refine pure_ (i:=11) (N:=some 74) (v:=?_) (a':=?_) #[true,false,true,false,true,false,false,true,false,true,false,true,false,false,false,false,false,false,false] rfl rfl (any_of HT_.out (by kernel_rfl)) (fun _ _ _ h => h) (Or.inl ⟨by rfl,?_⟩) ?_ ?_;rotate_left
                     ·
                      intro w'
                      go_simp
                      with_reducible rfl
                     rotate_left
                     ·
                      simp only [Act.put,List.setIfInBounds_toArray,List.set_cons_zero,List.set_cons_succ,i64_w,i32_w]
                      rfl
                     refine take_ (i:=1) (N:=some 64) (v:=?_) (a':=?_) #[true,true,true,false,true,false,false,true,false,true,false,true,false,false,false,false,false,false,false] rfl rfl (take_ofW HT_.out HW_.out (by kernel_rfl)) (fun _ _ _ h => h) (Or.inl ⟨by rfl,?_⟩) hHeld ?_ ?_;rotate_left
                     ·
                      rintro w' ⟨s0,s1,s2,s3,s4,s5,s6,s7,s8,s9,s10⟩
                      go_simp
                      with_reducible rfl
                     rotate_left
                     ·
                      simp only [Act.put,List.setIfInBounds_toArray,List.set_cons_zero,List.set_cons_succ,i64_w,i32_w]
                      rfl
                     refine take_ (i:=3) (N:=some 66) (v:=?_) (a':=?_) #[true,true,true,true,true,false,false,true,false,true,false,true,false,false,false,false,false,false,false] rfl rfl (take_ofW HT_.out HW_.out (by kernel_rfl)) (fun _ _ _ h => h) (Or.inl ⟨by rfl,?_⟩) hHeld ?_ ?_;rotate_left
                     ·
                      rintro w' ⟨s0,s1,s2,s3,s4,s5,s6,s7,s8,s9,s10⟩
                      go_simp
                      with_reducible rfl
                     rotate_left
                     ·
                      simp only [Act.put,List.setIfInBounds_toArray,List.set_cons_zero,List.set_cons_succ,i64_w,i32_w]
                      rfl
                     refine pure_ (i:=5) (N:=some 68) (v:=?_) (a':=?_) #[true,true,true,true,true,true,false,true,false,true,false,true,false,false,false,false,false,false,false] rfl rfl (any_of HT_.out (by kernel_rfl)) (fun _ _ _ h => h) (Or.inl ⟨by rfl,?_⟩) ?_ ?_;rotate_left
                     ·
                      intro w'
                      go_simp
                      with_reducible rfl
                     rotate_left
                     ·
                      simp only [Act.put,List.setIfInBounds_toArray,List.set_cons_zero,List.set_cons_succ,i64_w,i32_w]
                      rfl
                     refine take_ (i:=6) (N:=some 69) (v:=?_) (a':=?_) #[true,true,true,true,true,true,true,true,false,true,false,true,false,false,false,false,false,false,false] rfl rfl (take_ofW HT_.out HW_.out (by kernel_rfl)) (fun _ _ _ h => h) (Or.inl ⟨by rfl,?_⟩) hHeld ?_ ?_;rotate_left
                     ·
                      rintro w' ⟨s0,s1,s2,s3,s4,s5,s6,s7,s8,s9,s10⟩
                      go_simp
                      with_reducible rfl
                     rotate_left
                     ·
                      simp only [Act.put,List.setIfInBounds_toArray,List.set_cons_zero,List.set_cons_succ,i64_w,i32_w]
                      rfl
                     refine pure_ (i:=8) (N:=some 71) (v:=?_) (a':=?_) #[true,true,true,true,true,true,true,true,true,true,false,true,false,false,false,false,false,false,false] rfl rfl (any_of HT_.out (by kernel_rfl)) (fun _ _ _ h => h) (Or.inl ⟨by rfl,?_⟩) ?_ ?_;rotate_left
                     ·
                      intro w'
                      go_simp
                      with_reducible rfl
                     rotate_left
                     ·
                      simp only [Act.put,List.setIfInBounds_toArray,List.set_cons_zero,List.set_cons_succ,i64_w,i32_w]
                      rfl
                     refine take_ (i:=10) (N:=some 73) (v:=?_) (a':=?_) #[true,true,true,true,true,true,true,true,true,true,true,true,false,false,false,false,false,false,false] rfl rfl (take_ofW HT_.out HW_.out (by kernel_rfl)) (fun _ _ _ h => h) (Or.inl ⟨by rfl,?_⟩) hHeld ?_ ?_;rotate_left
                     ·
                      rintro w' ⟨s0,s1,s2,s3,s4,s5,s6,s7,s8,s9,s10⟩
                      go_simp
                      with_reducible rfl
                     rotate_left
                     ·
                      simp only [Act.put,List.setIfInBounds_toArray,List.set_cons_zero,List.set_cons_succ,i64_w,i32_w]
                      rfl
                     refine pure_ (i:=12) (N:=some 75) (v:=?_) (a':=?_) #[true,true,true,true,true,true,true,true,true,true,true,true,true,false,false,false,false,false,false] rfl rfl (any_of HT_.out (by kernel_rfl)) (fun _ _ _ h => h) (Or.inl ⟨by rfl,?_⟩) ?_ ?_;rotate_left
                     ·
                      intro w'
                      go_simp
                      with_reducible rfl
                     rotate_left
                     ·
                      simp only [Act.put,List.setIfInBounds_toArray,List.set_cons_zero,List.set_cons_succ,i64_w,i32_w]
                      rfl
                     refine take_ (i:=13) (N:=some 76) (v:=?_) (a':=?_) #[true,true,true,true,true,true,true,true,true,true,true,true,true,true,false,false,false,false,false] rfl rfl (take_ofW HT_.out HW_.out (by kernel_rfl)) (fun _ _ _ h => h) (Or.inl ⟨by rfl,?_⟩) hHeld ?_ ?_;rotate_left
                     ·
                      rintro w' ⟨s0,s1,s2,s3,s4,s5,s6,s7,s8,s9,s10⟩
                      go_simp
                      with_reducible rfl
                     rotate_left
                     ·
                      simp only [Act.put,List.setIfInBounds_toArray,List.set_cons_zero,List.set_cons_succ,i64_w,i32_w]
                      rfl
                     refine pure_ (i:=14) (N:=some 77) (v:=?_) (a':=?_) #[true,true,true,true,true,true,true,true,true,true,true,true,true,true,true,false,false,false,false] rfl rfl (any_of HT_.out (by kernel_rfl)) (fun _ _ _ h => h) (Or.inl ⟨by rfl,?_⟩) ?_ ?_;rotate_left
                     ·
                      intro w'
                      go_simp
                      with_reducible rfl
                     rotate_left
                     ·
                      simp only [Act.put,List.setIfInBounds_toArray,List.set_cons_zero,List.set_cons_succ,i64_w,i32_w]
                      rfl
                     refine one_ (i:=15) (N:=some 78) #[true,true,true,true,true,true,true,true,true,true,true,true,true,true,true,true,false,false,false] rfl rfl (one_of HT_.out (by kernel_rfl)) (by decide) (fun K hK => ?_)
                     refine value_ (w1:=?_) (v:=?_) (by rfl) rfl ?_ ?_
                     rotate_left 2
                     ·
                      go_simp
                      constructor
                      ·
                       rfl
                      ·
                       rfl
                     refine hK.out _ _ ⟨(blk_cell (blk_alloc BK117.out _) 0).trans rfl,(blk_cell (blk_alloc BK117.out _) 1).trans rfl,(blk_cell (blk_alloc BK117.out _) 2).trans rfl,(blk_cell (blk_alloc BK112.out _) 0).trans rfl,(blk_cell (blk_alloc BK112.out _) 1).trans rfl,(blk_cell (blk_alloc BK112.out _) 2).trans rfl,(blk_cell (blk_alloc BK113.out _) 0).trans rfl,(blk_cell (blk_alloc BK113.out _) 1).trans rfl,(blk_cell (blk_alloc BK113.out _) 2).trans rfl,(World.cell?_alloc_lt _ _ _ (World.block_lt_of_cell? _ _ (((HB.out.cell (World.block_lt_of_cell? w _ hw123_0)).trans hw123_0)))).trans (((HB.out.cell (World.block_lt_of_cell? w _ hw123_0)).trans hw123_0)),(World.cell?_alloc_lt _ _ _ (World.block_lt_of_cell? _ _ (((HB.out.cell (World.block_lt_of_cell? w _ hw124_0)).trans hw124_0)))).trans (((HB.out.cell (World.block_lt_of_cell? w _ hw124_0)).trans hw124_0))⟩ (fun hHeld => ?_);clear hK K
                     refine norm_ (a':=?_) ?_ ?_;rotate_left
                     ·
                      show Act.put _ (some 78) _ = _
                      simp only [Act.put,List.setIfInBounds_toArray,List.set_cons_zero,List.set_cons_succ,i64_w,i32_w]
                      rfl
                     refine one_ (i:=16) (N:=some 79) #[true,true,true,true,true,true,true,true,true,true,true,true,true,true,true,true,true,false,false] rfl rfl (one_of HT_.out (by kernel_rfl)) (by decide) (fun K hK => ?_)
                     refine Kd.R_append_step (Kd.int .i64) (w0:=w) w.heap.size (by rfl) (.tmp 64) (.tmp 78) 23 3 (.int .i64 0) 8 rfl Tryd.underlying23 info3 rfl (by decide) (by omega) u118001 x118001_3 (wrap64 ((wrap64 ((rd l0_1 x8_2) * (l1_0.length : Int))) + (rd l1_1 x9_3))) [.int .i64 (wrap64 ((wrap64 ((rd l0_1 x8_2) * (l1_0.length : Int))) + (rd l1_1 x9_3)))] (fun k_ => some k_ ≠ (u118002 : Value).ownBlock ∧ some k_ ≠ (.slice Ao62 y120.length co62 : Value).ownBlock) (fun _ => False) rfl rfl ?aP (fun _ hk => hk.elim) ?aF ?aO ?aB ?aS ?aL ?_
                     (case aP => exact rfl)
                     (case aB => exact (by repeat (first|(with_reducible first|exact HB.out|apply below_alloc|apply pw_below_drewN|apply below_drew1|refine below_set ?_ GE112.out|refine below_set ?_ GE113.out|refine below_set ?_ GE114.out|refine below_set ?_ GE117.out)|exact HB.out)))
                     (case aF => exact (fun k_ hk => ⟨Kd.fresh' (Kd.R_lt (rU HO_118002.out)) k_ hk,Kd.fresh' (Kd.R_lt (rU HO122.out)) k_ hk⟩))
                     (case aO => exact (rU HO_118001.out))
                     (case aS => exact (below_size (by repeat (first|(with_reducible first|exact HB.out|apply below_alloc|apply pw_below_drewN|apply below_drew1|refine below_set ?_ GE112.out|refine below_set ?_ GE113.out|refine below_set ?_ GE114.out|refine below_set ?_ GE117.out)|exact HB.out))))
                     (case aL => have:=LMc56.out;omega);intro v126 w66 ho hb hg hat
                     rw [← Ny125.out] at ho;have n0_:=Aside0.mk (Kd.R_after (ok:=(fun k_ => some k_ ≠ (.slice Ao62 y120.length co62 : Value).ownBlock)) (by (with_reducible repeat (first|apply Kd.R_alloc|apply Kd.R_drewN|apply Kd.R_drew));exact Kd.R_mono HO_118002.out (fun _ hk => ⟨hk.2,hk.1⟩)) hg hat);have n1_:=Aside0.mk (blk_grown (g:=gb112) (o:=.cells #[.slice (some ad118) l0_0.length c0_0,.slice (some ad123) l0_1.length c0_1,.slice A0_2 l0_2.length c0_2] 25 (0,0)) (blkU BK112.out) hg (Kd.R_ne HO_118001.out BK112.out (by decide)));have n2_:=Aside0.mk (blk_grown (g:=gb113) (o:=.cells #[.slice (some ad119) l1_0.length c1_0,.slice (some ad124) l1_1.length c1_1,.slice A1_2 l1_2.length c1_2] 25 (0,0)) (blkU BK113.out) hg (Kd.R_ne HO_118001.out BK113.out (by decide)));have n3_:=Aside0.mk (blk_grown (g:=gb114) (o:=.cells #[.slice none 0 0,.slice none 0 0,.slice none 0 0] 25 (0,0)) (blkU BK114.out) hg (Kd.R_ne HO_118001.out BK114.out (by decide)));have n4_:=Aside0.mk (blk_grown (g:=gb117) (o:=.cells #[.slice Ao62 y120.length co62,u118001,u118002] 25 (0,0)) (blkU BK117.out) hg (Kd.R_ne HO_118001.out BK117.out (by decide)))
                     have n5_:=Aside0.mk (Kd.R_after (ok:=(fun k_ => some k_ ≠ (u118002 : Value).ownBlock)) (by (with_reducible repeat (first|apply Kd.R_alloc|apply Kd.R_drewN|apply Kd.R_drew));exact Kd.R_mono HO122.out (fun _ hk => ⟨hk.2,hk.1⟩)) hg hat);have n6_:=Aside0.mk (hb);have n7_:=Aside0.mk (ho);clear HO_118002 BK112 BK113 BK114 BK117 HO122 HB HO_118001;have HO_118002:=n0_;have BK112:=n1_;have BK113:=n2_;have BK114:=n3_;have BK117:=n4_;have HO122:=n5_;have HB:=n6_;have HO127:=n7_;clear n0_ n1_ n2_ n3_ n4_ n5_ n6_ n7_ ho hb hg hat
                     obtain ⟨Ao67,co67,eo67⟩:=Kd.R_slice HO127.out
                     (first|subst eo67|(injection eo67 with f1_ f2_ f3_;have f4_:=f1_.symm;have f5_:=f3_.symm;clear f1_ f2_ f3_;subst f4_;subst f5_))
                     refine hK.out _ _ ⟨(blk_cell BK117.out 0).trans rfl,(blk_cell BK117.out 1).trans rfl,(blk_cell BK117.out 2).trans rfl,(blk_cell BK112.out 0).trans rfl,(blk_cell BK112.out 1).trans rfl,(blk_cell BK112.out 2).trans rfl,(blk_cell BK113.out 0).trans rfl,(blk_cell BK113.out 1).trans rfl,(blk_cell BK113.out 2).trans rfl,((HB.out.cell (World.block_lt_of_cell? w _ hw123_0)).trans hw123_0),((HB.out.cell (World.block_lt_of_cell? w _ hw124_0)).trans hw124_0)⟩ (fun hHeld => ?_);clear hK K
                     refine norm_ (a':=?_) ?_ ?_;rotate_left
                     ·
                      show Act.put _ (some 79) _ = _
                      simp only [Act.put,List.setIfInBounds_toArray,List.set_cons_zero,List.set_cons_succ,i64_w,i32_w]
                      rfl
                     refine pure_ (i:=17) (N:=some 80) (v:=?_) (a':=?_) #[true,true,true,true,true,true,true,true,true,true,true,true,true,true,true,true,true,true,false] rfl rfl (any_of HT_.out (by kernel_rfl)) (fun _ _ _ h => h) (Or.inl ⟨by rfl,?_⟩) ?_ ?_;rotate_left
                     ·
                      intro w'
                      go_simp
                      with_reducible rfl
                     rotate_left
                     ·
                      simp only [Act.put,List.setIfInBounds_toArray,List.set_cons_zero,List.set_cons_succ,i64_w,i32_w]
                      rfl
                     refine last_ (i:=18) (N:=none) #[true,true,true,true,true,true,true,true,true,true,true,true,true,true,true,true,true,true,true] rfl rfl (one_of HT_.out (by kernel_rfl)) (by decide) (fun K hK => ?_)
                     have hs68 : w66.cell? ⟨gb117,1,none⟩ = some (u118001):=(blk_cell BK117.out 1).trans rfl
                     have hfs68:=blk_frozen BK117.out 1;have hns68_0:=NB112_117.out;have hns68_1:=NB113_117.out;have hns68_2:=NB114_117.out;have hms68_0:=NB117_112.out;have hms68_1:=NB117_113.out;have hms68_2:=NB117_114.out
                     refine skip_ (w1:=?_) (by rfl) rfl ?_ ?_;rotate_left
                     ·
                      go_simp
                      rfl
                     refine hK.out _ _ ?_;clear hK K
                     refine done_ (done_of HT_.out (by kernel_rfl)) ?_
                     try go_wp2
                     have n0_ : Aside0 (Kd.R (Kd.int .i64) 3 (w66.setCell ⟨gb117,1,none⟩ (.slice Ao67 y125.length co67)) w.heap.size (fun k_ => some k_ ≠ (.slice Ao62 y120.length co62 : Value).ownBlock ∧ some k_ ≠ (.slice Ao67 y125.length co67 : Value).ownBlock) u118002 x118002_3):=⟨by (with_reducible repeat (first|apply Kd.R_alloc|apply Kd.R_drewN|apply Kd.R_drew));exact Kd.R_mono (Kd.R_far (p:=⟨gb117,1,none⟩) (Kd.R_types HO_118002.out BK117.out (by decide)) (fun _ hk => hk.2) (.slice Ao67 y125.length co67)) (fun _ hk => ⟨hk.1.1,hk.1.2⟩)⟩
                     have n1_ : Aside0 (Kd.R (Kd.int .i64) 3 (w66.setCell ⟨gb117,1,none⟩ (.slice Ao67 y125.length co67)) w.heap.size (fun k_ => some k_ ≠ (u118002 : Value).ownBlock ∧ some k_ ≠ (.slice Ao67 y125.length co67 : Value).ownBlock) (.slice Ao62 y120.length co62) y120):=⟨by (with_reducible repeat (first|apply Kd.R_alloc|apply Kd.R_drewN|apply Kd.R_drew));exact Kd.R_mono (Kd.R_far (p:=⟨gb117,1,none⟩) (Kd.R_types HO122.out BK117.out (by decide)) (fun _ hk => hk.2) (.slice Ao67 y125.length co67)) (fun _ hk => ⟨hk.1.1,hk.1.2⟩)⟩
                     have n2_ : Aside0 (Kd.R (Kd.int .i64) 3 (w66.setCell ⟨gb117,1,none⟩ (.slice Ao67 y125.length co67)) w.heap.size (fun k_ => some k_ ≠ (u118002 : Value).ownBlock ∧ some k_ ≠ (.slice Ao62 y120.length co62 : Value).ownBlock) (.slice Ao67 y125.length co67) y125):=⟨by (with_reducible repeat (first|apply Kd.R_alloc|apply Kd.R_drewN|apply Kd.R_drew));exact Kd.R_mono (Kd.R_far (p:=⟨gb117,1,none⟩) (Kd.R_types HO127.out BK117.out (by decide)) (fun _ hk => hk.2) (.slice Ao67 y125.length co67)) (fun _ hk => ⟨hk.1.1,hk.1.2⟩)⟩
                     have n3_ : Aside0 ((w66.setCell ⟨gb117,1,none⟩ (.slice Ao67 y125.length co67)).heap[gb112]? = some (.cells #[.slice (some ad118) l0_0.length c0_0,.slice (some ad123) l0_1.length c0_1,.slice A0_2 l0_2.length c0_2] 25 (0,0))):=⟨by (with_reducible repeat (first|refine blk_drewN ?_ _|refine blk_drew ?_|refine blk_alloc ?_ _));refine blk_far ?_ NB112_117.out _;(with_reducible repeat (first|refine blk_drewN ?_ _|refine blk_drew ?_|refine blk_alloc ?_ _));exact BK112.out⟩
                     have n4_ : Aside0 ((w66.setCell ⟨gb117,1,none⟩ (.slice Ao67 y125.length co67)).heap[gb113]? = some (.cells #[.slice (some ad119) l1_0.length c1_0,.slice (some ad124) l1_1.length c1_1,.slice A1_2 l1_2.length c1_2] 25 (0,0))):=⟨by (with_reducible repeat (first|refine blk_drewN ?_ _|refine blk_drew ?_|refine blk_alloc ?_ _));refine blk_far ?_ NB113_117.out _;(with_reducible repeat (first|refine blk_drewN ?_ _|refine blk_drew ?_|refine blk_alloc ?_ _));exact BK113.out⟩
                     have n5_ : Aside0 ((w66.setCell ⟨gb117,1,none⟩ (.slice Ao67 y125.length co67)).heap[gb114]? = some (.cells #[.slice none 0 0,.slice none 0 0,.slice none 0 0] 25 (0,0))):=⟨by (with_reducible repeat (first|refine blk_drewN ?_ _|refine blk_drew ?_|refine blk_alloc ?_ _));refine blk_far ?_ NB114_117.out _;(with_reducible repeat (first|refine blk_drewN ?_ _|refine blk_drew ?_|refine blk_alloc ?_ _));exact BK114.out⟩
                     have n6_ : Aside0 ((w66.setCell ⟨gb117,1,none⟩ (.slice Ao67 y125.length co67)).heap[gb117]? = some (.cells #[.slice Ao62 y120.length co62,.slice Ao67 y125.length co67,u118002] 25 (0,0))):=⟨by (with_reducible repeat (first|refine blk_drewN ?_ _|refine blk_drew ?_|refine blk_alloc ?_ _));refine blk_put (cs:=#[.slice Ao62 y120.length co62,u118001,u118002]) ?_ 1 _ rfl;(with_reducible repeat (first|refine blk_drewN ?_ _|refine blk_drew ?_|refine blk_alloc ?_ _));exact BK117.out⟩
                     have n7_ : Aside0 (Below w.heap.size w (w66.setCell ⟨gb117,1,none⟩ (.slice Ao67 y125.length co67))):=⟨by repeat (first|(with_reducible first|exact HB.out|apply below_alloc|apply pw_below_drewN|apply below_drew1|refine below_set ?_ GE112.out|refine below_set ?_ GE113.out|refine below_set ?_ GE114.out|refine below_set ?_ GE117.out)|exact HB.out)⟩
                     (try clear HO_118002)
                     (try clear HO122)
                     (try clear HO127)
                     (try clear BK112)
                     (try clear BK113)
                     (try clear BK114)
                     (try clear BK117)
                     (try clear HB)
                     generalize (w66.setCell ⟨gb117,1,none⟩ (.slice Ao67 y125.length co67)) = w69 at n0_ n1_ n2_ n3_ n4_ n5_ n6_ n7_ ⊢;have HO_118002:=n0_;have HO122:=n1_;have HO127:=n2_;have BK112:=n3_;have BK113:=n4_;have BK114:=n5_;have BK117:=n6_;have HB:=n7_;clear n0_ n1_ n2_ n3_ n4_ n5_ n6_ n7_;have n0_:=Aside0.mk (Kd.R_drew HO_118002.out);have n1_:=Aside0.mk (Kd.R_drew HO122.out);have n2_:=Aside0.mk (Kd.R_drew HO127.out);have n3_:=Aside0.mk (blk_drew BK112.out);have n4_:=Aside0.mk (blk_drew BK113.out);have n5_:=Aside0.mk (blk_drew BK114.out);have n6_:=Aside0.mk (blk_drew BK117.out);have n7_:=Aside0.mk (below_drew1 HB.out);clear HO_118002 HO122 HO127 BK112 BK113 BK114 BK117 HB;have HO_118002:=n0_;have HO122:=n1_;have HO127:=n2_;have BK112:=n3_;have BK113:=n4_;have BK114:=n5_;have BK117:=n6_;have HB:=n7_;clear n0_ n1_ n2_ n3_ n4_ n5_ n6_ n7_
                     have p128 : 0 ≤ (x8_2 : Int):=of_decide_eq_true (by first|(with_reducible assumption)|assumption)
                     have q128 : x8_2 < (l0_2.length : Int):=of_decide_eq_true (by first|(with_reducible assumption)|assumption)
                     obtain ⟨ad128,e128,hx128_0⟩:=Kd.at_int HR0_2.out x8_2 p128 q128;have hw128_0:=hx128_0
                     cases e128
                     replace hx128_0:=(HB.out.cell (World.block_lt_of_cell? w _ hx128_0)).trans hx128_0
                     replace p128:=eq_true p128
                     replace q128:=eq_true q128
                     have p129 : 0 ≤ (x9_3 : Int):=of_decide_eq_true (by first|(with_reducible assumption)|assumption)
                     have q129 : x9_3 < (l1_2.length : Int):=of_decide_eq_true (by first|(with_reducible assumption)|assumption)
                     obtain ⟨ad129,e129,hx129_0⟩:=Kd.at_int HR1_2.out x9_3 p129 q129;have hw129_0:=hx129_0
                     cases e129
                     replace hx129_0:=(HB.out.cell (World.block_lt_of_cell? w _ hx129_0)).trans hx129_0
                     replace p129:=eq_true p129
                     replace q129:=eq_true q129
                     refine start_ (n:=17) (S:=fun w' => w'.cell? ⟨gb117,0,none⟩ = some (.slice Ao62 y120.length co62) ∧ w'.cell? ⟨gb117,1,none⟩ = some (.slice Ao67 y125.length co67) ∧ w'.cell? ⟨gb117,2,none⟩ = some (u118002) ∧ w'.cell? ⟨gb112,0,none⟩ = some (.slice (some ad118) l0_0.length c0_0) ∧ w'.cell? ⟨gb112,1,none⟩ = some (.slice (some ad123) l0_1.length c0_1) ∧ w'.cell? ⟨gb112,2,none⟩ = some (.slice (some ad128) l0_2.length c0_2) ∧ w'.cell? ⟨gb113,0,none⟩ = some (.slice (some ad119) l1_0.length c1_0) ∧ w'.cell? ⟨gb113,1,none⟩ = some (.slice (some ad124) l1_1.length c1_1) ∧ w'.cell? ⟨gb113,2,none⟩ = some (.slice (some ad129) l1_2.length c1_2) ∧ w'.cell? (ad128.add (x8_2).toNat) = some (.int .i64 (rd l0_2 x8_2)) ∧ w'.cell? (ad129.add (x9_3).toNat) = some (.int .i64 (rd l1_2 x9_3))) (ds:=[16]) #[false,false,false,false,false,false,false,false,false,false,false,false,false,false,false,false,false] (by kernel_rfl) rfl rfl ⟨(blk_cell BK117.out 0).trans rfl,(blk_cell BK117.out 1).trans rfl,(blk_cell BK117.out 2).trans rfl,(blk_cell BK112.out 0).trans rfl,(blk_cell BK112.out 1).trans rfl,(blk_cell BK112.out 2).trans rfl,(blk_cell BK113.out 0).trans rfl,(blk_cell BK113.out 1).trans rfl,(blk_cell BK113.out 2).trans rfl,((HB.out.cell (World.block_lt_of_cell? w _ hw128_0)).trans hw128_0),((HB.out.cell (World.block_lt_of_cell? w _ hw129_0)).trans hw129_0)⟩ (fun hHeld => ?_);refine with_tabW spec_MachineBoth.tab13 spec_MachineBoth.bits13 (fun HT_ HW_ => ?_)
                     generalize w69.drew = w70 at HO_118002 HO122 HO127 BK112 BK113 BK114 BK117 HB hx128_0 hx129_0 hHeld ⊢
                     refine pure_ (i:=0) (N:=some 81) (v:=?_) (a':=?_) #[true,false,false,false,false,false,false,false,false,false,false,false,false,false,false,false,false] rfl rfl (any_of HT_.out (by kernel_rfl)) (fun _ _ _ h => h) (Or.inl ⟨by rfl,?_⟩) ?_ ?_;rotate_left
                     ·
                      intro w'
                      go_simp
                      with_reducible rfl
                     rotate_left
                     ·
                      simp only [Act.put,List.setIfInBounds_toArray,List.set_cons_zero,List.set_cons_succ,i64_w,i32_w]
                      rfl
                     refine pure_ (i:=2) (N:=some 83) (v:=?_) (a':=?_) #[true,false,true,false,false,false,false,false,false,false,false,false,false,false,false,false,false] rfl rfl (any_of HT_.out (by kernel_rfl)) (fun _ _ _ h => h) (Or.inl ⟨by rfl,?_⟩) ?_ ?_;rotate_left
                     ·
                      intro w'
                      go_simp
                      with_reducible rfl
                     rotate_left
                     ·
                      simp only [Act.put,List.setIfInBounds_toArray,List.set_cons_zero,List.set_cons_succ,i64_w,i32_w]
                      rfl
                     refine pure_ (i:=4) (N:=some 85) (v:=?_) (a':=?_) #[true,false,true,false,true,false,false,false,false,false,false,false,false,false,false,false,false] rfl rfl (any_of HT_.out (by kernel_rfl)) (fun _ _ _ h => h) (Or.inl ⟨by rfl,?_⟩) ?_ ?_;rotate_left
                     ·
                      intro w'
                      go_simp
                      with_reducible rfl
                     rotate_left
                     ·
                      simp only [Act.put,List.setIfInBounds_toArray,List.set_cons_zero,List.set_cons_succ,i64_w,i32_w]
                      rfl
                     refine pure_ (i:=7) (N:=some 88) (v:=?_) (a':=?_) #[true,false,true,false,true,false,false,true,false,false,false,false,false,false,false,false,false] rfl rfl (any_of HT_.out (by kernel_rfl)) (fun _ _ _ h => h) (Or.inl ⟨by rfl,?_⟩) ?_ ?_;rotate_left
                     ·
                      intro w'
                      go_simp
                      with_reducible rfl
                     rotate_left
                     ·
                      simp only [Act.put,List.setIfInBounds_toArray,List.set_cons_zero,List.set_cons_succ,i64_w,i32_w]
                      rfl
                     refine pure_ (i:=9) (N:=some 90) (v:=?_) (a':=?_) #[true,false,true,false,true,false,false,true,false,true,false,false,false,false,false,false,false] rfl rfl (any_of HT_.out (by kernel_rfl)) (fun _ _ _ h => h) (Or.inl ⟨by rfl,?_⟩) ?_ ?_;rotate_left
                     ·
                      intro w'
                      go_simp
                      with_reducible rfl
                     rotate_left
                     ·
                      simp only [Act.put,List.setIfInBounds_toArray,List.set_cons_zero,List.set_cons_succ,i64_w,i32_w]
                      rfl
                     refine take_ (i:=1) (N:=some 82) (v:=?_) (a':=?_) #[true,true,true,false,true,false,false,true,false,true,false,false,false,false,false,false,false] rfl rfl (take_ofW HT_.out HW_.out (by kernel_rfl)) (fun _ _ _ h => h) (Or.inl ⟨by rfl,?_⟩) hHeld ?_ ?_;rotate_left
                     ·
                      rintro w' ⟨s0,s1,s2,s3,s4,s5,s6,s7,s8,s9,s10⟩
                      go_simp
                      with_reducible rfl
                     rotate_left
                     ·
                      simp only [Act.put,List.setIfInBounds_toArray,List.set_cons_zero,List.set_cons_succ,i64_w,i32_w]
                      rfl
                     refine take_ (i:=3) (N:=some 84) (v:=?_) (a':=?_) #[true,true,true,true,true,false,false,true,false,true,false,false,false,false,false,false,false] rfl rfl (take_ofW HT_.out HW_.out (by kernel_rfl)) (fun _ _ _ h => h) (Or.inl ⟨by rfl,?_⟩) hHeld ?_ ?_;rotate_left
                     ·
                      rintro w' ⟨s0,s1,s2,s3,s4,s5,s6,s7,s8,s9,s10⟩
                      go_simp
                      with_reducible rfl
                     rotate_left
                     ·
                      simp only [Act.put,List.setIfInBounds_toArray,List.set_cons_zero,List.set_cons_succ,i64_w,i32_w]
                      rfl
                     refine pure_ (i:=5) (N:=some 86) (v:=?_) (a':=?_) #[true,true,true,true,true,true,false,true,false,true,false,false,false,false,false,false,false] rfl rfl (any_of HT_.out (by kernel_rfl)) (fun _ _ _ h => h) (Or.inl ⟨by rfl,?_⟩) ?_ ?_;rotate_left
                     ·
                      intro w'
                      go_simp
                      with_reducible rfl
                     rotate_left
                     ·
                      simp only [Act.put,List.setIfInBounds_toArray,List.set_cons_zero,List.set_cons_succ,i64_w,i32_w]
                      rfl
                     refine take_ (i:=6) (N:=some 87) (v:=?_) (a':=?_) #[true,true,true,true,true,true,true,true,false,true,false,false,false,false,false,false,false] rfl rfl (take_ofW HT_.out HW_.out (by kernel_rfl)) (fun _ _ _ h => h) (Or.inl ⟨by rfl,?_⟩) hHeld ?_ ?_;rotate_left
                     ·
                      rintro w' ⟨s0,s1,s2,s3,s4,s5,s6,s7,s8,s9,s10⟩
                      go_simp
                      with_reducible rfl
                     rotate_left
                     ·
                      simp only [Act.put,List.setIfInBounds_toArray,List.set_cons_zero,List.set_cons_succ,i64_w,i32_w]
                      rfl
                     refine take_ (i:=8) (N:=some 89) (v:=?_) (a':=?_) #[true,true,true,true,true,true,true,true,true,true,false,false,false,false,false,false,false] rfl rfl (take_ofW HT_.out HW_.out (by kernel_rfl)) (fun _ _ _ h => h) (Or.inl ⟨by rfl,?_⟩) hHeld ?_ ?_;rotate_left
                     ·
                      rintro w' ⟨s0,s1,s2,s3,s4,s5,s6,s7,s8,s9,s10⟩
                      go_simp
                      with_reducible rfl
                     rotate_left
                     ·
                      simp only [Act.put,List.setIfInBounds_toArray,List.set_cons_zero,List.set_cons_succ,i64_w,i32_w]
                      rfl
                     refine pure_ (i:=10) (N:=some 91) (v:=?_) (a':=?_) #[true,true,true,true,true,true,true,true,true,true,true,false,false,false,false,false,false] rfl rfl (any_of HT_.out (by kernel_rfl)) (fun _ _ _ h => h) (Or.inl ⟨by rfl,?_⟩) ?_ ?_;rotate_left
                     ·
                      intro w'
                      go_simp
                      with_reducible rfl
                     rotate_left
                     ·
                      simp only [Act.put,List.setIfInBounds_toArray,List.set_cons_zero,List.set_cons_succ,i64_w,i32_w]
                      rfl
                     refine take_ (i:=11) (N:=some 92) (v:=?_) (a':=?_) #[true,true,true,true,true,true,true,true,true,true,true,true,false,false,false,false,false] rfl rfl (take_ofW HT_.out HW_.out (by kernel_rfl)) (fun _ _ _ h => h) (Or.inl ⟨by rfl,?_⟩) hHeld ?_ ?_;rotate_left
                     ·
                      rintro w' ⟨s0,s1,s2,s3,s4,s5,s6,s7,s8,s9,s10⟩
                      go_simp
                      with_reducible rfl
                     rotate_left
                     ·
                      simp only [Act.put,List.setIfInBounds_toArray,List.set_cons_zero,List.set_cons_succ,i64_w,i32_w]
                      rfl
                     refine pure_ (i:=12) (N:=some 93) (v:=?_) (a':=?_) #[true,true,true,true,true,true,true,true,true,true,true,true,true,false,false,false,false] rfl rfl (any_of HT_.out (by kernel_rfl)) (fun _ _ _ h => h) (Or.inl ⟨by rfl,?_⟩) ?_ ?_;rotate_left
                     ·
                      intro w'
                      go_simp
                      with_reducible rfl
                     rotate_left
                     ·
                      simp only [Act.put,List.setIfInBounds_toArray,List.set_cons_zero,List.set_cons_succ,i64_w,i32_w]
                      rfl
                     refine one_ (i:=13) (N:=some 94) #[true,true,true,true,true,true,true,true,true,true,true,true,true,true,false,false,false] rfl rfl (one_of HT_.out (by kernel_rfl)) (by decide) (fun K hK => ?_)
                     refine value_ (w1:=?_) (v:=?_) (by rfl) rfl ?_ ?_
                     rotate_left 2
                     ·
                      go_simp
                      constructor
                      ·
                       rfl
                      ·
                       rfl
                     refine hK.out _ _ ⟨(blk_cell (blk_alloc BK117.out _) 0).trans rfl,(blk_cell (blk_alloc BK117.out _) 1).trans rfl,(blk_cell (blk_alloc BK117.out _) 2).trans rfl,(blk_cell (blk_alloc BK112.out _) 0).trans rfl,(blk_cell (blk_alloc BK112.out _) 1).trans rfl,(blk_cell (blk_alloc BK112.out _) 2).trans rfl,(blk_cell (blk_alloc BK113.out _) 0).trans rfl,(blk_cell (blk_alloc BK113.out _) 1).trans rfl,(blk_cell (blk_alloc BK113.out _) 2).trans rfl,(World.cell?_alloc_lt _ _ _ (World.block_lt_of_cell? _ _ (((HB.out.cell (World.block_lt_of_cell? w _ hw128_0)).trans hw128_0)))).trans (((HB.out.cell (World.block_lt_of_cell? w _ hw128_0)).trans hw128_0)),(World.cell?_alloc_lt _ _ _ (World.block_lt_of_cell? _ _ (((HB.out.cell (World.block_lt_of_cell? w _ hw129_0)).trans hw129_0)))).trans (((HB.out.cell (World.block_lt_of_cell? w _ hw129_0)).trans hw129_0))⟩ (fun hHeld => ?_);clear hK K
                     refine norm_ (a':=?_) ?_ ?_;rotate_left
                     ·
                      show Act.put _ (some 94) _ = _
                      simp only [Act.put,List.setIfInBounds_toArray,List.set_cons_zero,List.set_cons_succ,i64_w,i32_w]
                      rfl
                     refine one_ (i:=14) (N:=some 95) #[true,true,true,true,true,true,true,true,true,true,true,true,true,true,true,false,false] rfl rfl (one_of HT_.out (by kernel_rfl)) (by decide) (fun K hK => ?_)
                     refine Kd.R_append_step (Kd.int .i64) (w0:=w) w.heap.size (by rfl) (.tmp 82) (.tmp 94) 23 3 (.int .i64 0) 8 rfl Tryd.underlying23 info3 rfl (by decide) (by omega) u118002 x118002_3 (wrap64 ((rd l0_2 x8_2) * (rd l1_2 x9_3))) [.int .i64 (wrap64 ((rd l0_2 x8_2) * (rd l1_2 x9_3)))] (fun k_ => some k_ ≠ (.slice Ao62 y120.length co62 : Value).ownBlock ∧ some k_ ≠ (.slice Ao67 y125.length co67 : Value).ownBlock) (fun _ => False) rfl rfl ?aP (fun _ hk => hk.elim) ?aF ?aO ?aB ?aS ?aL ?_
                     (case aP => exact rfl)
                     (case aB => exact (by repeat (first|(with_reducible first|exact HB.out|apply below_alloc|apply pw_below_drewN|apply below_drew1|refine below_set ?_ GE112.out|refine below_set ?_ GE113.out|refine below_set ?_ GE114.out|refine below_set ?_ GE117.out)|exact HB.out)))
                     (case aF => exact (fun k_ hk => ⟨Kd.fresh' (Kd.R_lt (rU HO122.out)) k_ hk,Kd.fresh' (Kd.R_lt (rU HO127.out)) k_ hk⟩))
                     (case aO => exact (rU HO_118002.out))
                     (case aS => exact (below_size (by repeat (first|(with_reducible first|exact HB.out|apply below_alloc|apply pw_below_drewN|apply below_drew1|refine below_set ?_ GE112.out|refine below_set ?_ GE113.out|refine below_set ?_ GE114.out|refine below_set ?_ GE117.out)|exact HB.out))))
                     (case aL => have:=LMc59.out;omega);intro v131 w71 ho hb hg hat
                     rw [← Ny130.out] at ho;have n0_:=Aside0.mk (blk_grown (g:=gb112) (o:=.cells #[.slice (some ad118) l0_0.length c0_0,.slice (some ad123) l0_1.length c0_1,.slice (some ad128) l0_2.length c0_2] 25 (0,0)) (blkU BK112.out) hg (Kd.R_ne HO_118002.out BK112.out (by decide)));have n1_:=Aside0.mk (blk_grown (g:=gb113) (o:=.cells #[.slice (some ad119) l1_0.length c1_0,.slice (some ad124) l1_1.length c1_1,.slice (some ad129) l1_2.length c1_2] 25 (0,0)) (blkU BK113.out) hg (Kd.R_ne HO_118002.out BK113.out (by decide)));have n2_:=Aside0.mk (blk_grown (g:=gb114) (o:=.cells #[.slice none 0 0,.slice none 0 0,.slice none 0 0] 25 (0,0)) (blkU BK114.out) hg (Kd.R_ne HO_118002.out BK114.out (by decide)));have n3_:=Aside0.mk (blk_grown (g:=gb117) (o:=.cells #[.slice Ao62 y120.length co62,.slice Ao67 y125.length co67,u118002] 25 (0,0)) (blkU BK117.out) hg (Kd.R_ne HO_118002.out BK117.out (by decide)));have n4_:=Aside0.mk (Kd.R_after (ok:=(fun k_ => some k_ ≠ (.slice Ao67 y125.length co67 : Value).ownBlock)) (by (with_reducible repeat (first|apply Kd.R_alloc|apply Kd.R_drewN|apply Kd.R_drew));exact Kd.R_mono HO122.out (fun _ hk => ⟨hk.2,hk.1⟩)) hg hat)
                     have n5_:=Aside0.mk (Kd.R_after (ok:=(fun k_ => some k_ ≠ (.slice Ao62 y120.length co62 : Value).ownBlock)) (by (with_reducible repeat (first|apply Kd.R_alloc|apply Kd.R_drewN|apply Kd.R_drew));exact Kd.R_mono HO127.out (fun _ hk => ⟨hk.2,hk.1⟩)) hg hat);have n6_:=Aside0.mk (hb);have n7_:=Aside0.mk (ho);clear BK112 BK113 BK114 BK117 HO122 HO127 HB HO_118002;have BK112:=n0_;have BK113:=n1_;have BK114:=n2_;have BK117:=n3_;have HO122:=n4_;have HO127:=n5_;have HB:=n6_;have HO132:=n7_;clear n0_ n1_ n2_ n3_ n4_ n5_ n6_ n7_ ho hb hg hat
                     obtain ⟨Ao72,co72,eo72⟩:=Kd.R_slice HO132.out
                     (first|subst eo72|(injection eo72 with f1_ f2_ f3_;have f4_:=f1_.symm;have f5_:=f3_.symm;clear f1_ f2_ f3_;subst f4_;subst f5_))
                     refine hK.out _ _ ⟨(blk_cell BK117.out 0).trans rfl,(blk_cell BK117.out 1).trans rfl,(blk_cell BK117.out 2).trans rfl,(blk_cell BK112.out 0).trans rfl,(blk_cell BK112.out 1).trans rfl,(blk_cell BK112.out 2).trans rfl,(blk_cell BK113.out 0).trans rfl,(blk_cell BK113.out 1).trans rfl,(blk_cell BK113.out 2).trans rfl,((HB.out.cell (World.block_lt_of_cell? w _ hw128_0)).trans hw128_0),((HB.out.cell (World.block_lt_of_cell? w _ hw129_0)).trans hw129_0)⟩ (fun hHeld => ?_);clear hK K
                     refine norm_ (a':=?_) ?_ ?_;rotate_left
                     ·
                      show Act.put _ (some 95) _ = _
                      simp only [Act.put,List.setIfInBounds_toArray,List.set_cons_zero,List.set_cons_succ,i64_w,i32_w]
                      rfl
                     refine pure_ (i:=15) (N:=some 96) (v:=?_) (a':=?_) #[true,true,true,true,true,true,true,true,true,true,true,true,true,true,true,true,false] rfl rfl (any_of HT_.out (by kernel_rfl)) (fun _ _ _ h => h) (Or.inl ⟨by rfl,?_⟩) ?_ ?_;rotate_left
                     ·
                      intro w'
                      go_simp
                      with_reducible rfl
                     rotate_left
                     ·
                      simp only [Act.put,List.setIfInBounds_toArray,List.set_cons_zero,List.set_cons_succ,i64_w,i32_w]
                      rfl
                     refine last_ (i:=16) (N:=none) #[true,true,true,true,true,true,true,true,true,true,true,true,true,true,true,true,true] rfl rfl (one_of HT_.out (by kernel_rfl)) (by decide) (fun K hK => ?_)
                     have hs73 : w71.cell? ⟨gb117,2,none⟩ = some (u118002):=(blk_cell BK117.out 2).trans rfl
                     have hfs73:=blk_frozen BK117.out 2;have hns73_0:=NB112_117.out;have hns73_1:=NB113_117.out;have hns73_2:=NB114_117.out;have hms73_0:=NB117_112.out;have hms73_1:=NB117_113.out;have hms73_2:=NB117_114.out
                     refine skip_ (w1:=?_) (by rfl) rfl ?_ ?_;rotate_left
                     ·
                      go_simp
                      rfl
                     refine hK.out _ _ ?_;clear hK K
                     refine done_ (done_of HT_.out (by kernel_rfl)) ?_
                     try go_wp2
                     go_roundg k3
                     case measure => have:=HJ2.out;have:=HK2.out;have:=HK3.out;omega
                     case rel => exact ⟨(wrap64 (x9_3 + 1)),(y120),(y125),(y130),(.slice Ao62 y120.length co62),(.slice Ao67 y125.length co67),(.slice Ao72 y130.length co72),(by first|rfl|(simp;done)|(simp [*];done)),H',⟨by have:=HJ2.out;have:=HK2.out;have:=HK3.out;omega⟩,⟨by (with_reducible repeat (first|apply Kd.R_alloc|apply Kd.R_drewN|apply Kd.R_drew));exact Kd.R_mono (Kd.R_far (p:=⟨gb117,2,none⟩) (Kd.R_types HO122.out BK117.out (by decide)) (fun _ hk => hk.2) (.slice Ao72 y130.length co72)) (fun _ hk => ⟨hk.1.1,hk.1.2⟩)⟩,⟨by (with_reducible repeat (first|apply Kd.R_alloc|apply Kd.R_drewN|apply Kd.R_drew));exact Kd.R_mono (Kd.R_far (p:=⟨gb117,2,none⟩) (Kd.R_types HO127.out BK117.out (by decide)) (fun _ hk => hk.2) (.slice Ao72 y130.length co72)) (fun _ hk => ⟨hk.1.1,hk.1.2⟩)⟩,⟨by (with_reducible repeat (first|apply Kd.R_alloc|apply Kd.R_drewN|apply Kd.R_drew));exact Kd.R_mono (Kd.R_far (p:=⟨gb117,2,none⟩) (Kd.R_types HO132.out BK117.out (by decide)) (fun _ hk => hk.2) (.slice Ao72 y130.length co72)) (fun _ hk => ⟨hk.1.1,hk.1.2⟩)⟩,⟨by (with_reducible repeat (first|refine blk_drewN ?_ _|refine blk_drew ?_|refine blk_alloc ?_ _));refine blk_far ?_ NB112_117.out _;(with_reducible repeat (first|refine blk_drewN ?_ _|refine blk_drew ?_|refine blk_alloc ?_ _));exact BK112.out⟩,⟨by (with_reducible repeat (first|refine blk_drewN ?_ _|refine blk_drew ?_|refine blk_alloc ?_ _));refine blk_far ?_ NB113_117.out _;(with_reducible repeat (first|refine blk_drewN ?_ _|refine blk_drew ?_|refine blk_alloc ?_ _));exact BK113.out⟩,⟨by (with_reducible repeat (first|refine blk_drewN ?_ _|refine blk_drew ?_|refine blk_alloc ?_ _));refine blk_far ?_ NB114_117.out _;(with_reducible repeat (first|refine blk_drewN ?_ _|refine blk_drew ?_|refine blk_alloc ?_ _));exact BK114.out⟩,⟨by (with_reducible repeat (first|refine blk_drewN ?_ _|refine blk_drew ?_|refine blk_alloc ?_ _));refine blk_put (cs:=#[.slice Ao62 y120.length co62,.slice Ao67 y125.length co67,u118002]) ?_ 2 _ rfl;(with_reducible repeat (first|refine blk_drewN ?_ _|refine blk_drew ?_|refine blk_alloc ?_ _));exact BK117.out⟩,⟨by repeat (first|(with_reducible first|exact HB.out|apply below_alloc|apply pw_below_drewN|apply below_drew1|refine below_set ?_ GE112.out|refine below_set ?_ GE113.out|refine below_set ?_ GE114.out|refine below_set ?_ GE117.out)|exact HB.out)⟩⟩
                    ·
                     rw [if_neg c59] at H
                     exact absurd H (by simp)
                   ·
                    rw [if_neg c58] at H
                    exact absurd H (by simp)
                  ·
                   rw [if_neg c57] at H
                   exact absurd H (by simp)
                 ·
                  rw [if_neg c56] at H
                  exact absurd H (by simp)
                ·
                 rw [if_neg c55] at H
                 exact absurd H (by simp)
               ·
                rw [if_neg c54] at H
                exact absurd H (by simp)
              ·
               rw [if_neg c53] at H
               exact absurd H (by simp)
             ·
              rw [if_neg c52] at H
              exact absurd H (by simp)
            ·
             rw [if_neg c51] at H
             exact absurd H (by simp)
           ·
            rw [if_neg c50] at H
            exact absurd H (by simp)
          ·
           rw [if_neg c49] at H
           exact absurd H (by simp)
         ·
          rw [if_neg c48] at H
          have c48b0 : decide (x9_3 < (l1_0.length : Int)) = false:=decide_eq_false c48;clear c48
          have H':=Aside0.mk H;clear H
          go_wp2
          go_roundg k3
          case measure => have:=HJ2.out;have:=HK2.out;have:=HK3.out;omega
          case rel => exact ⟨(wrap64 (x8_2 + 1)),(x118000_3),(x118001_3),(x118002_3),(u118000),(u118001),(u118002),(by first|rfl|(simp;done)|(simp [*];done)),H',⟨by have:=HJ2.out;have:=HK2.out;have:=HK3.out;omega⟩,⟨rU HO_118000.out⟩,⟨rU HO_118001.out⟩,⟨rU HO_118002.out⟩,⟨blkU BK112.out⟩,⟨blkU BK113.out⟩,⟨blkU BK114.out⟩,⟨blkU BK117.out⟩,⟨by repeat (first|(with_reducible first|exact HB.out|apply below_alloc|apply pw_below_drewN|apply below_drew1|refine below_set ?_ GE112.out|refine below_set ?_ GE113.out|refine below_set ?_ GE114.out|refine below_set ?_ GE117.out)|exact HB.out)⟩⟩
      ·
       rw [if_neg c43] at H
       have c43b0 : decide (x8_2 < (l0_0.length : Int)) = false:=decide_eq_false c43;clear c43
       simp only [Option.some.injEq,Prod.mk.injEq] at H
       obtain ⟨rfl,rfl,rfl,rfl⟩:=H;have hnb74:=NB112_113.out;have hnc74:=NB113_112.out;have hnb75:=NB112_114.out;have hnc75:=NB114_112.out;have hnb76:=NB112_117.out;have hnc76:=NB117_112.out
       have hcz77_0 : wr.cell? ⟨gb112,0,none⟩ = some (.slice A0_0 l0_0.length c0_0):=(blk_cell BK112.out 0).trans rfl
       have hcz77_1 : wr.cell? ⟨gb112,1,none⟩ = some (.slice A0_1 l0_1.length c0_1):=(blk_cell BK112.out 1).trans rfl
       have hcz77_2 : wr.cell? ⟨gb112,2,none⟩ = some (.slice A0_2 l0_2.length c0_2):=(blk_cell BK112.out 2).trans rfl
       have hfz77_0:=blk_frozen BK112.out 0
       have hfz77_1:=blk_frozen BK112.out 1
       have hfz77_2:=blk_frozen BK112.out 2;have hnb78:=NB117_113.out;have hnc78:=NB113_117.out;have hnb79:=NB117_114.out;have hnc79:=NB114_117.out
       have hcz80_0 : wr.cell? ⟨gb117,0,none⟩ = some (u118000):=(blk_cell BK117.out 0).trans rfl
       have hcz80_1 : wr.cell? ⟨gb117,1,none⟩ = some (u118001):=(blk_cell BK117.out 1).trans rfl
       have hcz80_2 : wr.cell? ⟨gb117,2,none⟩ = some (u118002):=(blk_cell BK117.out 2).trans rfl
       have hfz80_0:=blk_frozen BK117.out 0
       have hfz80_1:=blk_frozen BK117.out 1
       have hfz80_2:=blk_frozen BK117.out 2
       obtain ⟨Ao81,co81,eo81⟩:=Kd.R_slice HO_118000.out;subst eo81;have hnb82:=NB114_113.out;have hnc82:=NB113_114.out
       have hcz83_0 : wr.cell? ⟨gb114,0,none⟩ = some (.slice none 0 0):=(blk_cell BK114.out 0).trans rfl
       have hcz83_1 : wr.cell? ⟨gb114,1,none⟩ = some (.slice none 0 0):=(blk_cell BK114.out 1).trans rfl
       have hcz83_2 : wr.cell? ⟨gb114,2,none⟩ = some (.slice none 0 0):=(blk_cell BK114.out 2).trans rfl
       have hfz83_0:=blk_frozen BK114.out 0
       have hfz83_1:=blk_frozen BK114.out 1
       have hfz83_2:=blk_frozen BK114.out 2
       obtain ⟨Ao84,co84,eo84⟩:=Kd.R_slice HO_118001.out;subst eo84
       obtain ⟨Ao85,co85,eo85⟩:=Kd.R_slice HO_118002.out;subst eo85
       go_wp2
       refine bodyPost_ret (results_ct rfl _ _ gb114 25 #[.slice Ao81 x118000_2.length co81,.slice Ao84 x118001_2.length co84,.slice Ao85 x118002_2.length co85] (0,0) _ rfl (by (with_reducible repeat (first|refine blk_drewN ?_ _|refine blk_drew ?_|refine blk_alloc ?_ _));refine blk_put (cs:=#[.slice Ao81 x118000_2.length co81,.slice Ao84 x118001_2.length co84,.slice none 0 0]) ?_ 2 _ rfl;(with_reducible repeat (first|refine blk_drewN ?_ _|refine blk_drew ?_|refine blk_alloc ?_ _));refine blk_put (cs:=#[.slice Ao81 x118000_2.length co81,.slice none 0 0,.slice none 0 0]) ?_ 1 _ rfl;(with_reducible repeat (first|refine blk_drewN ?_ _|refine blk_drew ?_|refine blk_alloc ?_ _));refine blk_put (cs:=#[.slice none 0 0,.slice none 0 0,.slice none 0 0]) ?_ 0 _ rfl;(with_reducible repeat (first|refine blk_drewN ?_ _|refine blk_drew ?_|refine blk_alloc ?_ _));exact BK114.out) Tryd.underlying25 rfl (by kernel_rfl)) rfl ?_
       exact ⟨_,_,_,by first|rfl|(simp [errW_none,errW_some] <;> rfl)|(simp [*,errW_none,errW_some] <;> rfl),by (with_reducible repeat (first|apply Kd.R_alloc|apply Kd.R_drewN|apply Kd.R_drew));exact Kd.R_mono (Kd.R_far (p:=⟨gb114,2,none⟩) (Kd.R_far (p:=⟨gb114,1,none⟩) (Kd.R_far (p:=⟨gb114,0,none⟩) (Kd.R_types HO_118000.out BK114.out (by decide)) (fun _ hk => hk.2) (.slice Ao81 x118000_2.length co81)) (fun _ hk => hk.2) (.slice Ao84 x118001_2.length co84)) (fun _ hk => hk.2) (.slice Ao85 x118002_2.length co85)) (fun _ hk => ⟨hk.1.1,hk.1.2⟩),by (with_reducible repeat (first|apply Kd.R_alloc|apply Kd.R_drewN|apply Kd.R_drew));exact Kd.R_mono (Kd.R_far (p:=⟨gb114,2,none⟩) (Kd.R_far (p:=⟨gb114,1,none⟩) (Kd.R_far (p:=⟨gb114,0,none⟩) (Kd.R_types HO_118001.out BK114.out (by decide)) (fun _ hk => hk.2) (.slice Ao81 x118000_2.length co81)) (fun _ hk => hk.2) (.slice Ao84 x118001_2.length co84)) (fun _ hk => hk.2) (.slice Ao85 x118002_2.length co85)) (fun _ hk => ⟨hk.1.1,hk.1.2⟩),by (with_reducible repeat (first|apply Kd.R_alloc|apply Kd.R_drewN|apply Kd.R_drew));exact Kd.R_mono (Kd.R_far (p:=⟨gb114,2,none⟩) (Kd.R_far (p:=⟨gb114,1,none⟩) (Kd.R_far (p:=⟨gb114,0,none⟩) (Kd.R_types HO_118002.out BK114.out (by decide)) (fun _ hk => hk.2) (.slice Ao81 x118000_2.length co81)) (fun _ hk => hk.2) (.slice Ao84 x118001_2.length co84)) (fun _ hk => hk.2) (.slice Ao85 x118002_2.length co85)) (fun _ hk => ⟨hk.1.1,hk.1.2⟩),by repeat (first|(with_reducible first|exact HB.out|apply below_alloc|apply pw_below_drewN|apply below_drew1|refine below_set ?_ GE112.out|refine below_set ?_ GE113.out|refine below_set ?_ GE114.out|refine below_set ?_ GE117.out)|exact HB.out)⟩

end Go.Proofs.YthodcgkhianecaaDoor.PA
