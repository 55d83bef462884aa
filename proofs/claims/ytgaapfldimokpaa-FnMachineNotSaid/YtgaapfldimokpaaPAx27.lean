/- The machine side of functions of this seat, written by the session's program myprint.py: for each Go function a Lean function and the proof that the call answers just it. -/
import Derived.Test.YtgaapfldimokpaaPAx0
import Derived.Test.YtgaapfldimokpaaPAx11
namespace Go.Proofs.Ytgaapfldimokpaa.PA
open Go.RowKit Go.Proofs.YtgaapfldimokpaaW.PrintWords Go.Proofs.YtgaapfldimokpaaW.PrintLast Go.Proofs.YtgaapfldimokpaaW.PrintMore
attribute [local go_sem] max2_int min2_int max_two min_two max_three min_three max_four min_four   -- for this text's walks alone
set_option linter.unusedVariables false
set_option linter.unusedSimpArgs false

/-! ### spec_MachineNot: function 24 -/
def spec_MachineNot.l0 : Nat → Int → List Int → List Int → List Int → List Int → List Int → List Int → Option (List Int × List Int × List Int)
 | 0,_,_,_,_,_,_,_ => none
 | k + 1,x4,x732000,x732001,x732002,x747000,x747001,x747002 => if x4 < (x732002.length : Int) then (if 0 ≤ x4 then (if x747002.length < 17592186044416 then (spec_MachineNot.l0 k (wrap64 (x4 + 1)) x732000 x732001 x732002 x747000 x747001 (x747002 ++ [wrap64 (1 - (rd x732002 x4))])) else (none)) else (none)) else (some (x747000,x747001,x747002))
def spec_MachineNot.f (k : Nat) (l0_0 : List Int) (l0_1 : List Int) (l0_2 : List Int) : Option (List Int × List Int × List Int):=(spec_MachineOk.f k l0_0 l0_1 l0_2).bind fun t733 => (if t733 = true then ((some (([] : List Int) : List Int)).bind fun y734 => (if y734.length + l0_0.length < 17592186044416 then ((some (([] : List Int) : List Int)).bind fun y740 => (if y740.length + l0_1.length < 17592186044416 then (spec_MachineNot.l0 k 0 l0_0 l0_1 l0_2 (y734 ++ l0_0) (y740 ++ l0_1) ([] : List Int)) else (none))) else (none))) else (some (([] : List Int),([] : List Int),([] : List Int))))
theorem spec_MachineNot.mono_l : ∀ k,(∀ y0 y1 y2 y3 y4 y5 y6,LeO (spec_MachineNot.l0 k y0 y1 y2 y3 y4 y5 y6) (spec_MachineNot.l0 (k + 1) y0 y1 y2 y3 y4 y5 y6))
 | 0 => fun _ _ _ _ _ _ _ r h => by simp [spec_MachineNot.l0] at h
 | k + 1 => by
  have ih0:=spec_MachineNot.mono_l k
  ·
   intro y0 y1 y2 y3 y4 y5 y6
   unfold spec_MachineNot.l0
   repeat' first
   | (with_reducible exact ih0 _ _ _ _ _ _ _)
   | (with_reducible exact spec_MachineOk.mono _ _ _ _)
   | (with_reducible exact LeO.refl _)
   | (with_reducible exact LeO.none _)
   | (with_reducible refine LeO.ite ?_ ?_)
   | (with_reducible refine LeO.bind ?_ (fun _ => ?_))
   | exact ih0 _ _ _ _ _ _ _
   | exact spec_MachineOk.mono _ _ _ _
   | exact LeO.none _
   | refine LeO.ite ?_ ?_
   | refine LeO.bind ?_ (fun _ => ?_)
theorem spec_MachineNot.mono : ∀ a0 a1 a2 k,LeO (spec_MachineNot.f k a0 a1 a2) (spec_MachineNot.f (k + 1) a0 a1 a2):=by
 intro a0 a1 a2 k
 have ih0:=spec_MachineNot.mono_l k
 unfold spec_MachineNot.f
 repeat' first
   | (with_reducible exact ih0 _ _ _ _ _ _ _)
   | (with_reducible exact spec_MachineOk.mono _ _ _ _)
   | (with_reducible exact LeO.refl _)
   | (with_reducible exact LeO.none _)
   | (with_reducible refine LeO.ite ?_ ?_)
   | (with_reducible refine LeO.bind ?_ (fun _ => ?_))
   | exact ih0 _ _ _ _ _ _ _
   | exact spec_MachineOk.mono _ _ _ _
   | exact LeO.none _
   | refine LeO.ite ?_ ?_
   | refine LeO.bind ?_ (fun _ => ?_)
def spec_MachineNot.T3 : Bool × List (List Nat × List Nat):=(true,[([],[]),([],[]),([1],[1]),([0,2],[0,2]),([],[]),([],[]),([5],[5]),([4,6,3],[4,6]),([3,7],[3,7]),([],[]),([9,8,7,0,1,2,3,4,5,6,7,8,9],[8,9])])
def spec_MachineNot.B3 : List Nat:=[0,0,2,7,0,0,32,127,255,0,1023]
theorem spec_MachineNot.tab3 : rtab .any (opsOf Try.f24 3) = spec_MachineNot.T3:=by kernel_rfl
theorem spec_MachineNot.bits3 : waitsOk spec_MachineNot.T3.2 spec_MachineNot.B3 = true:=by kernel_rfl
def spec_MachineNot.T7 : Bool × List (List Nat × List Nat):=(true,[([],[]),([0],[0]),([],[]),([2],[2]),([],[]),([3,4],[3,4]),([5],[5]),([6],[6]),([7],[7]),([1,8],[1,8]),([0,1,2,3,4,5,6,7,8,9],[]),([10,9,9,0,1,2,3,4,5,6,7,8,9],[9,10])])
def spec_MachineNot.B7 : List Nat:=[0,1,0,4,0,28,60,124,252,511,1023,2047]
theorem spec_MachineNot.tab7 : rtab .any (opsOf Try.f24 7) = spec_MachineNot.T7:=by kernel_rfl
theorem spec_MachineNot.bits7 : waitsOk spec_MachineNot.T7.2 spec_MachineNot.B7 = true:=by kernel_rfl
set_option maxHeartbeats 8000000 in
set_option maxRecDepth 100000 in
theorem spec_MachineNot.calls (k : Nat) (A0_0 : Option Addr) (c0_0 : Nat) (l0_0 : List Int) (A0_1 : Option Addr) (c0_1 : Nat) (l0_1 : List Int) (A0_2 : Option Addr) (c0_2 : Nat) (l0_2 : List Int) (r1 : List Int) (r2 : List Int) (r3 : List Int) (w : World) (hr0_0 : Kd.C (Kd.int .i64) w A0_0 l0_0.length l0_0) (hc0_0 : l0_0.length ≤ c0_0) (hr0_1 : Kd.C (Kd.int .i64) w A0_1 l0_1.length l0_1) (hc0_1 : l0_1.length ≤ c0_1) (hr0_2 : Kd.C (Kd.int .i64) w A0_2 l0_2.length l0_2) (hc0_2 : l0_2.length ≤ c0_2) (h : spec_MachineNot.f k l0_0 l0_1 l0_2 = some (r1,r2,r3)) :
  Calls Try.prog 24 #[.agg #[.slice A0_0 l0_0.length c0_0,.slice A0_1 l0_1.length c0_1,.slice A0_2 l0_2.length c0_2]] w fun e w' => ∃ v0_ v1_ v2_ : Value,e = .returned (.agg #[v0_,v1_,v2_]) ∧ Kd.R (Kd.int .i64) 3 w' w.heap.size (fun k_ => some k_ ≠ (v1_ : Value).ownBlock ∧ some k_ ≠ (v2_ : Value).ownBlock) v0_ r1 ∧ Kd.R (Kd.int .i64) 3 w' w.heap.size (fun k_ => some k_ ≠ (v0_ : Value).ownBlock ∧ some k_ ≠ (v2_ : Value).ownBlock) v1_ r2 ∧ Kd.R (Kd.int .i64) 3 w' w.heap.size (fun k_ => some k_ ≠ (v0_ : Value).ownBlock ∧ some k_ ≠ (v1_ : Value).ownBlock) v2_ r3 ∧ Below w.heap.size w w':=by
 have hu24:=Try.underlying24
 have HR0_0:=Aside0.mk hr0_0
 have HC0_0:=Aside0.mk hc0_0;clear hr0_0 hc0_0
 have HR0_1:=Aside0.mk hr0_1
 have HC0_1:=Aside0.mk hc0_1;clear hr0_1 hc0_1
 have HR0_2:=Aside0.mk hr0_2
 have HC0_2:=Aside0.mk hc0_2;clear hr0_2 hc0_2;have HB:=Aside0.mk (Below.refl w.heap.size w)
 have H : ((spec_MachineOk.f k l0_0 l0_1 l0_2).bind fun t733 => (if t733 = true then ((some (([] : List Int) : List Int)).bind fun y734 => (if y734.length + l0_0.length < 17592186044416 then ((some (([] : List Int) : List Int)).bind fun y740 => (if y740.length + l0_1.length < 17592186044416 then (spec_MachineNot.l0 k 0 l0_0 l0_1 l0_2 (y734 ++ l0_0) (y740 ++ l0_1) ([] : List Int)) else (none))) else (none))) else (some (([] : List Int),([] : List Int),([] : List Int))))) = some (r1,r2,r3):=h;clear h
 replace H:=Option.bind_eq_some_iff.mp H
 obtain ⟨t733,A20,H⟩:=H
 replace H : (if t733 = true then ((some (([] : List Int) : List Int)).bind fun y734 => (if y734.length + l0_0.length < 17592186044416 then ((some (([] : List Int) : List Int)).bind fun y740 => (if y740.length + l0_1.length < 17592186044416 then (spec_MachineNot.l0 k 0 l0_0 l0_1 l0_2 (y734 ++ l0_0) (y740 ++ l0_1) ([] : List Int)) else (none))) else (none))) else (some (([] : List Int),([] : List Int),([] : List Int)))) = some (r1,r2,r3):=H
 have A2:=Aside0.mk A20;clear A20
 by_cases c3 : t733 = true
 ·
  subst c3
  have H1 : ((some (([] : List Int) : List Int)).bind fun y734 => (if y734.length + l0_0.length < 17592186044416 then ((some (([] : List Int) : List Int)).bind fun y740 => (if y740.length + l0_1.length < 17592186044416 then (spec_MachineNot.l0 k 0 l0_0 l0_1 l0_2 (y734 ++ l0_0) (y740 ++ l0_1) ([] : List Int)) else (none))) else (none))) = some (r1,r2,r3):=by rw [if_pos rfl] at H;exact H
  clear H;have H:=H1;clear H1
  obtain ⟨y734,hy734⟩ : ∃ y_ : List Int,y_ = (([] : List Int)):=⟨_,rfl⟩
  replace H : (if y734.length + l0_0.length < 17592186044416 then ((some (([] : List Int) : List Int)).bind fun y740 => (if y740.length + l0_1.length < 17592186044416 then (spec_MachineNot.l0 k 0 l0_0 l0_1 l0_2 (y734 ++ l0_0) (y740 ++ l0_1) ([] : List Int)) else (none))) else (none)) = some (r1,r2,r3):=by first|(rw [hy734];with_reducible exact H)|(have H2_:=(Option.bind_some _ _).symm.trans H;rw [hy734];with_reducible exact H2_)|(have H2_:=(Option.bind_some _ _).symm.trans H;with_reducible exact H2_)|with_reducible exact H|(rw [hy734];exact H)|exact H
  have Ny734:=Aside0.mk hy734;clear hy734
  by_cases c4 : y734.length + l0_0.length < 17592186044416
  ·
   rw [if_pos c4] at H
   have LMc4:=Aside0.mk c4;clear c4
   obtain ⟨y737,hy737⟩ : ∃ y_ : List Int,y_ = (y734 ++ l0_0):=⟨_,rfl⟩
   replace H : ((some (([] : List Int) : List Int)).bind fun y740 => (if y740.length + l0_1.length < 17592186044416 then (spec_MachineNot.l0 k 0 l0_0 l0_1 l0_2 y737 (y740 ++ l0_1) ([] : List Int)) else (none))) = some (r1,r2,r3):=by first|(rw [hy737];with_reducible exact H)|(have H2_:=(Option.bind_some _ _).symm.trans H;rw [hy737];with_reducible exact H2_)|(have H2_:=(Option.bind_some _ _).symm.trans H;with_reducible exact H2_)|with_reducible exact H|(rw [hy737];exact H)|exact H
   have Ny737:=Aside0.mk hy737;clear hy737
   obtain ⟨y740,hy740⟩ : ∃ y_ : List Int,y_ = (([] : List Int)):=⟨_,rfl⟩
   replace H : (if y740.length + l0_1.length < 17592186044416 then (spec_MachineNot.l0 k 0 l0_0 l0_1 l0_2 y737 (y740 ++ l0_1) ([] : List Int)) else (none)) = some (r1,r2,r3):=by first|(rw [hy740];with_reducible exact H)|(have H2_:=(Option.bind_some _ _).symm.trans H;rw [hy740];with_reducible exact H2_)|(have H2_:=(Option.bind_some _ _).symm.trans H;with_reducible exact H2_)|with_reducible exact H|(rw [hy740];exact H)|exact H
   have Ny740:=Aside0.mk hy740;clear hy740
   by_cases c5 : y740.length + l0_1.length < 17592186044416
   ·
    rw [if_pos c5] at H
    have LMc5:=Aside0.mk c5;clear c5
    obtain ⟨y743,hy743⟩ : ∃ y_ : List Int,y_ = (y740 ++ l0_1):=⟨_,rfl⟩
    replace H : (spec_MachineNot.l0 k 0 l0_0 l0_1 l0_2 y737 y743 ([] : List Int)) = some (r1,r2,r3):=by first|(rw [hy743];with_reducible exact H)|(have H2_:=(Option.bind_some _ _).symm.trans H;rw [hy743];with_reducible exact H2_)|(have H2_:=(Option.bind_some _ _).symm.trans H;with_reducible exact H2_)|with_reducible exact H|(rw [hy743];exact H)|exact H
    have Ny743:=Aside0.mk hy743;clear hy743
    have H':=Aside0.mk H;clear H
    go_enter Try.func24,Try.ntmps24
    try go_wp2_with (first|((with_reducible refine gate_dst (N:=1) rfl ?_);refine box_event ?hg (N:=1) ?hd (cs:=#[.slice A0_0 l0_0.length c0_0,.slice A0_1 l0_1.length c0_1,.slice A0_2 l0_2.length c0_2]) (t:=24) ?hr ?_;(case hd => rfl);(case hg => rfl);(case hr => first|(go_simp;done)|(go_simp;rfl));intro gb731 hg w6 hbox hb;have n0_:=Aside0.mk (below_step (by repeat (first|(with_reducible first|exact HB.out|apply below_alloc|apply pw_below_drewN|apply below_drew1)|exact HB.out)) hb);have n1_:=Aside0.mk (hbox);have n2_:=Aside0.mk ((by rw [hg];exact (below_size (by repeat (first|(with_reducible first|exact HB.out|apply below_alloc|apply pw_below_drewN|apply below_drew1)|exact HB.out))) : w.heap.size ≤ gb731));have n3_:=Aside0.mk ((by rw [hg];exact (below_size (by repeat (first|(with_reducible first|exact HB.out|apply below_alloc|apply pw_below_drewN|apply below_drew1)|exact HB.out))) : w.heap.size ≤ gb731));clear HB;have HB:=n0_;have BK731:=n1_;have GW731:=n2_;have GE731:=n3_;clear n0_ n1_ n2_ n3_ hb hbox hg)|((with_reducible refine gate_dst (N:=2) rfl ?_);refine box_event ?hg (N:=2) ?hd (cs:=#[.slice none 0 0,.slice none 0 0,.slice none 0 0]) (t:=24) ?hr ?_;(case hd => rfl);(case hg => rfl);(case hr => first|(go_simp;done)|(go_simp;rfl));intro gb732 hg w7 hbox hb;have n0_:=Aside0.mk (blk_below (g:=gb731) (o:=.cells #[.slice A0_0 l0_0.length c0_0,.slice A0_1 l0_1.length c0_1,.slice A0_2 l0_2.length c0_2] 24 (0,0)) (by (with_reducible repeat (first|refine blk_drewN ?_ _|refine blk_drew ?_|refine blk_alloc ?_ _));exact BK731.out) hb);have n1_:=Aside0.mk (below_step (by repeat (first|(with_reducible first|exact HB.out|apply below_alloc|apply pw_below_drewN|apply below_drew1|refine below_set ?_ GE731.out)|exact HB.out)) hb);have n2_:=Aside0.mk (hbox);have n3_:=Aside0.mk ((by rw [hg];exact (below_size (by repeat (first|(with_reducible first|exact HB.out|apply below_alloc|apply pw_below_drewN|apply below_drew1|refine below_set ?_ GE731.out)|exact HB.out))) : w.heap.size ≤ gb732));have n4_:=Aside0.mk ((by rw [hg];exact (below_size (by repeat (first|(with_reducible first|exact HB.out|apply below_alloc|apply pw_below_drewN|apply below_drew1|refine below_set ?_ GE731.out)|exact HB.out))) : w.heap.size ≤ gb732));have n5_:=Aside0.mk ((by rw [hg];exact Nat.ne_of_lt (blk_lt (g:=gb731) (o:=.cells #[.slice A0_0 l0_0.length c0_0,.slice A0_1 l0_1.length c0_1,.slice A0_2 l0_2.length c0_2] 24 (0,0)) (by (with_reducible repeat (first|refine blk_drewN ?_ _|refine blk_drew ?_|refine blk_alloc ?_ _));exact BK731.out)) : gb731 ≠ gb732));have n6_:=Aside0.mk ((by rw [hg];exact Nat.ne_of_gt (blk_lt (g:=gb731) (o:=.cells #[.slice A0_0 l0_0.length c0_0,.slice A0_1 l0_1.length c0_1,.slice A0_2 l0_2.length c0_2] 24 (0,0)) (by (with_reducible repeat (first|refine blk_drewN ?_ _|refine blk_drew ?_|refine blk_alloc ?_ _));exact BK731.out)) : gb732 ≠ gb731));clear BK731 HB;have BK731:=n0_;have HB:=n1_;have BK732:=n2_;have GW732:=n3_;have GE732:=n4_;have NB731_732:=n5_;have NB732_731:=n6_;clear n0_ n1_ n2_ n3_ n4_ n5_ n6_ hb hbox hg;have hnb8:=NB731_732.out;have hnc8:=NB732_731.out;have hcz9_0 : w7.cell? ⟨gb731,0,none⟩ = some (.slice A0_0 l0_0.length c0_0):=(blk_cell BK731.out 0).trans rfl;have hcz9_1 : w7.cell? ⟨gb731,1,none⟩ = some (.slice A0_1 l0_1.length c0_1):=(blk_cell BK731.out 1).trans rfl;have hcz9_2 : w7.cell? ⟨gb731,2,none⟩ = some (.slice A0_2 l0_2.length c0_2):=(blk_cell BK731.out 2).trans rfl;have hfz9_0:=blk_frozen BK731.out 0;have hfz9_1:=blk_frozen BK731.out 1;have hfz9_2:=blk_frozen BK731.out 2)|((with_reducible refine gate_callee (f:=19) rfl ?_);refine goesL_ (some 6) rfl rfl Try.func19 (by kernel_rfl) rfl #[.agg #[.slice A0_0 l0_0.length c0_0,.slice A0_1 l0_1.length c0_1,.slice A0_2 l0_2.length c0_2]] rfl (by (try simp only [List.map_toArray,List.map_cons,List.map_nil]);first|done|rfl|(simp only [List.length_drop,List.length_take];rfl)) ?_;(with_reducible refine (spec_MachineOk.calls k _ _ l0_0 _ _ l0_1 _ _ l0_2 true _ ?side1 ?side2 ?side3 ?side4 ?side5 ?side6 A2.out).mono ?_);(case side1 => repeat (first|exact (Kd.C_below HR0_0.out HB.out)|(with_reducible refine Kd.C_alloc ?_ _)|(with_reducible refine Kd.C_drewN ?_ _)|(with_reducible refine Kd.C_drew ?_)));(case side2 => exact HC0_0.out);(case side3 => repeat (first|exact (Kd.C_below HR0_1.out HB.out)|(with_reducible refine Kd.C_alloc ?_ _)|(with_reducible refine Kd.C_drewN ?_ _)|(with_reducible refine Kd.C_drew ?_)));(case side4 => exact HC0_1.out);(case side5 => repeat (first|exact (Kd.C_below HR0_2.out HB.out)|(with_reducible refine Kd.C_alloc ?_ _)|(with_reducible refine Kd.C_drewN ?_ _)|(with_reducible refine Kd.C_drew ?_)));(case side6 => exact HC0_2.out);rintro e w10 ⟨rfl,hb⟩;refine ⟨_,rfl,?_⟩;have n0_:=Aside0.mk (blk_below (g:=gb731) (o:=.cells #[.slice A0_0 l0_0.length c0_0,.slice A0_1 l0_1.length c0_1,.slice A0_2 l0_2.length c0_2] 24 (0,0)) (by (with_reducible repeat (first|refine blk_drewN ?_ _|refine blk_drew ?_|refine blk_alloc ?_ _));exact BK731.out) hb);have n1_:=Aside0.mk (blk_below (g:=gb732) (o:=.cells #[.slice none 0 0,.slice none 0 0,.slice none 0 0] 24 (0,0)) (by (with_reducible repeat (first|refine blk_drewN ?_ _|refine blk_drew ?_|refine blk_alloc ?_ _));exact BK732.out) hb);have n2_:=Aside0.mk (below_step (by repeat (first|(with_reducible first|exact HB.out|apply below_alloc|apply pw_below_drewN|apply below_drew1|refine below_set ?_ GE731.out|refine below_set ?_ GE732.out)|exact HB.out)) hb);clear BK731 BK732 HB;have BK731:=n0_;have BK732:=n1_;have HB:=n2_;clear n0_ n1_ n2_;(try clear hb);(try clear hb2);(try clear hk);(try clear hi)))
    have n0_:=Aside0.mk (blk_drew BK731.out);have n1_:=Aside0.mk (blk_drew BK732.out);have n2_:=Aside0.mk (below_drew1 HB.out);clear BK731 BK732 HB;have BK731:=n0_;have BK732:=n1_;have HB:=n2_;clear n0_ n1_ n2_
    refine start_ (n:=11) (S:=fun w' => w'.cell? ⟨gb731,0,none⟩ = some (.slice A0_0 l0_0.length c0_0) ∧ w'.cell? ⟨gb731,1,none⟩ = some (.slice A0_1 l0_1.length c0_1) ∧ w'.cell? ⟨gb731,2,none⟩ = some (.slice A0_2 l0_2.length c0_2)) (ds:=[]) #[false,false,false,false,false,false,false,false,false,false,false] (by kernel_rfl) rfl rfl ⟨(blk_cell BK731.out 0).trans rfl,(blk_cell BK731.out 1).trans rfl,(blk_cell BK731.out 2).trans rfl⟩ (fun hHeld => ?_);refine with_tabW spec_MachineNot.tab3 spec_MachineNot.bits3 (fun HT_ HW_ => ?_)
    generalize w10.drew = w11 at BK731 BK732 HB hHeld ⊢
    refine pure_ (i:=1) (N:=some 10) (v:=?_) (a':=?_) #[false,true,false,false,false,false,false,false,false,false,false] rfl rfl (any_of HT_.out (by kernel_rfl)) (fun _ _ _ h => h) (Or.inl ⟨by rfl,?_⟩) ?_ ?_;rotate_left
    ·
     intro w'
     go_simp
     with_reducible rfl
    rotate_left
    ·
     simp only [Act.put,List.setIfInBounds_toArray,List.set_cons_zero,List.set_cons_succ,i64_w,i32_w]
     rfl
    refine pure_ (i:=5) (N:=some 14) (v:=?_) (a':=?_) #[false,true,false,false,false,true,false,false,false,false,false] rfl rfl (any_of HT_.out (by kernel_rfl)) (fun _ _ _ h => h) (Or.inl ⟨by rfl,?_⟩) ?_ ?_;rotate_left
    ·
     intro w'
     go_simp
     with_reducible rfl
    rotate_left
    ·
     simp only [Act.put,List.setIfInBounds_toArray,List.set_cons_zero,List.set_cons_succ,i64_w,i32_w]
     rfl
    refine take_ (i:=2) (N:=some 11) (v:=?_) (a':=?_) #[false,true,true,false,false,true,false,false,false,false,false] rfl rfl (take_ofW HT_.out HW_.out (by kernel_rfl)) (fun _ _ _ h => h) (Or.inl ⟨by rfl,?_⟩) hHeld ?_ ?_;rotate_left
    ·
     rintro w' ⟨s0,s1,s2⟩
     go_simp
     with_reducible rfl
    rotate_left
    ·
     simp only [Act.put,List.setIfInBounds_toArray,List.set_cons_zero,List.set_cons_succ,i64_w,i32_w]
     rfl
    refine take_ (i:=6) (N:=some 15) (v:=?_) (a':=?_) #[false,true,true,false,false,true,true,false,false,false,false] rfl rfl (take_ofW HT_.out HW_.out (by kernel_rfl)) (fun _ _ _ h => h) (Or.inl ⟨by rfl,?_⟩) hHeld ?_ ?_;rotate_left
    ·
     rintro w' ⟨s0,s1,s2⟩
     go_simp
     with_reducible rfl
    rotate_left
    ·
     simp only [Act.put,List.setIfInBounds_toArray,List.set_cons_zero,List.set_cons_succ,i64_w,i32_w]
     rfl
    refine join_ (σ:=Value × Value × Value × Value × Nat) 1 #[true,true,true,true,true,true,true,true,true,true,false] (fun s_ => [(9,s_.1),(12,s_.2.1),(13,s_.2.2.1),(16,s_.2.2.2.1),(3,.pointer (some ⟨s_.2.2.2.2,0,none⟩)),(17,.agg #[s_.2.1,s_.2.2.2.1,.slice none 0 0])]) (fun s_ w' => (w'.cell? ⟨gb731,0,none⟩ = some (.slice A0_0 l0_0.length c0_0) ∧ w'.cell? ⟨gb731,1,none⟩ = some (.slice A0_1 l0_1.length c0_1) ∧ w'.cell? ⟨gb731,2,none⟩ = some (.slice A0_2 l0_2.length c0_2)) ∧ (Kd.R (Kd.int .i64) 3 w' w.heap.size (fun k_ => some k_ ≠ (s_.2.2.2.1 : Value).ownBlock) s_.2.1 y737) ∧ (Kd.R (Kd.int .i64) 3 w' w.heap.size (fun k_ => some k_ ≠ (s_.2.1 : Value).ownBlock) s_.2.2.2.1 y743) ∧ (w'.heap[gb731]? = some (.cells #[.slice A0_0 l0_0.length c0_0,.slice A0_1 l0_1.length c0_1,.slice A0_2 l0_2.length c0_2] 24 (0,0))) ∧ (w'.heap[gb732]? = some (.cells #[.slice none 0 0,.slice none 0 0,.slice none 0 0] 24 (0,0))) ∧ (w'.heap[s_.2.2.2.2]? = some (.cells #[.slice none 0 0,.slice none 0 0,.slice none 0 0] 24 (0,0))) ∧ (w.heap.size ≤ s_.2.2.2.2) ∧ (w.heap.size ≤ s_.2.2.2.2) ∧ (gb731 ≠ s_.2.2.2.2) ∧ (s_.2.2.2.2 ≠ gb731) ∧ (gb732 ≠ s_.2.2.2.2) ∧ (s_.2.2.2.2 ≠ gb732) ∧ (Below w.heap.size w w')) ?_ ?_;rotate_left
    ·
     intro hJ0_3_4_7_9
     refine join_ (σ:=Value × Value × Value × Value) 2 #[true,true,true,true,true,true,true,true,true,false,false] (fun s_ => [(9,s_.1),(12,s_.2.1),(13,s_.2.2.1),(16,s_.2.2.2),(17,.agg #[s_.2.1,s_.2.2.2,.slice none 0 0])]) (fun s_ w' => (w'.cell? ⟨gb731,0,none⟩ = some (.slice A0_0 l0_0.length c0_0) ∧ w'.cell? ⟨gb731,1,none⟩ = some (.slice A0_1 l0_1.length c0_1) ∧ w'.cell? ⟨gb731,2,none⟩ = some (.slice A0_2 l0_2.length c0_2)) ∧ (Kd.R (Kd.int .i64) 3 w' w.heap.size (fun k_ => some k_ ≠ (s_.2.2.2 : Value).ownBlock) s_.2.1 y737) ∧ (Kd.R (Kd.int .i64) 3 w' w.heap.size (fun k_ => some k_ ≠ (s_.2.1 : Value).ownBlock) s_.2.2.2 y743) ∧ (w'.heap[gb731]? = some (.cells #[.slice A0_0 l0_0.length c0_0,.slice A0_1 l0_1.length c0_1,.slice A0_2 l0_2.length c0_2] 24 (0,0))) ∧ (w'.heap[gb732]? = some (.cells #[.slice none 0 0,.slice none 0 0,.slice none 0 0] 24 (0,0))) ∧ (Below w.heap.size w w')) ?_ ?_;rotate_left
     ·
      intro hJ0_3_4_7
      refine join_ (σ:=Value × Value × Value × Nat) 3 #[true,true,true,true,true,true,true,false,false,true,false] (fun s_ => [(9,s_.1),(12,s_.2.1),(13,s_.2.2.1),(3,.pointer (some ⟨s_.2.2.2,0,none⟩))]) (fun s_ w' => (w'.cell? ⟨gb731,0,none⟩ = some (.slice A0_0 l0_0.length c0_0) ∧ w'.cell? ⟨gb731,1,none⟩ = some (.slice A0_1 l0_1.length c0_1) ∧ w'.cell? ⟨gb731,2,none⟩ = some (.slice A0_2 l0_2.length c0_2)) ∧ (Kd.R (Kd.int .i64) 3 w' w.heap.size (fun k_ => some k_ ≠ (s_.2.2.1 : Value).ownBlock) s_.2.1 y737) ∧ (Kd.R (Kd.int .i64) 3 w' w.heap.size (fun k_ => some k_ ≠ (s_.2.1 : Value).ownBlock) s_.2.2.1 y740) ∧ (w'.heap[gb731]? = some (.cells #[.slice A0_0 l0_0.length c0_0,.slice A0_1 l0_1.length c0_1,.slice A0_2 l0_2.length c0_2] 24 (0,0))) ∧ (w'.heap[gb732]? = some (.cells #[.slice none 0 0,.slice none 0 0,.slice none 0 0] 24 (0,0))) ∧ (w'.heap[s_.2.2.2]? = some (.cells #[.slice none 0 0,.slice none 0 0,.slice none 0 0] 24 (0,0))) ∧ (w.heap.size ≤ s_.2.2.2) ∧ (w.heap.size ≤ s_.2.2.2) ∧ (gb731 ≠ s_.2.2.2) ∧ (s_.2.2.2 ≠ gb731) ∧ (gb732 ≠ s_.2.2.2) ∧ (s_.2.2.2 ≠ gb732) ∧ (Below w.heap.size w w')) ?_ ?_;rotate_left
      ·
       intro hJ0_3_4_9
       refine join_ (σ:=Value × Value × Value) 4 #[true,true,true,true,true,true,true,false,false,false,false] (fun s_ => [(9,s_.1),(12,s_.2.1),(13,s_.2.2)]) (fun s_ w' => (w'.cell? ⟨gb731,0,none⟩ = some (.slice A0_0 l0_0.length c0_0) ∧ w'.cell? ⟨gb731,1,none⟩ = some (.slice A0_1 l0_1.length c0_1) ∧ w'.cell? ⟨gb731,2,none⟩ = some (.slice A0_2 l0_2.length c0_2)) ∧ (Kd.R (Kd.int .i64) 3 w' w.heap.size (fun k_ => some k_ ≠ (s_.2.2 : Value).ownBlock) s_.2.1 y737) ∧ (Kd.R (Kd.int .i64) 3 w' w.heap.size (fun k_ => some k_ ≠ (s_.2.1 : Value).ownBlock) s_.2.2 y740) ∧ (w'.heap[gb731]? = some (.cells #[.slice A0_0 l0_0.length c0_0,.slice A0_1 l0_1.length c0_1,.slice A0_2 l0_2.length c0_2] 24 (0,0))) ∧ (w'.heap[gb732]? = some (.cells #[.slice none 0 0,.slice none 0 0,.slice none 0 0] 24 (0,0))) ∧ (Below w.heap.size w w')) ?_ ?_;rotate_left
       ·
        intro hJ0_3_4
        refine join_ (σ:=Value × Value × Nat) 4 #[true,true,true,true,false,true,true,false,false,true,false] (fun s_ => [(9,s_.1),(12,s_.2.1),(3,.pointer (some ⟨s_.2.2,0,none⟩))]) (fun s_ w' => (w'.cell? ⟨gb731,0,none⟩ = some (.slice A0_0 l0_0.length c0_0) ∧ w'.cell? ⟨gb731,1,none⟩ = some (.slice A0_1 l0_1.length c0_1) ∧ w'.cell? ⟨gb731,2,none⟩ = some (.slice A0_2 l0_2.length c0_2)) ∧ (Kd.R (Kd.int .i64) 3 w' w.heap.size (fun _ => True) s_.2.1 y737) ∧ (w'.heap[gb731]? = some (.cells #[.slice A0_0 l0_0.length c0_0,.slice A0_1 l0_1.length c0_1,.slice A0_2 l0_2.length c0_2] 24 (0,0))) ∧ (w'.heap[gb732]? = some (.cells #[.slice none 0 0,.slice none 0 0,.slice none 0 0] 24 (0,0))) ∧ (w'.heap[s_.2.2]? = some (.cells #[.slice none 0 0,.slice none 0 0,.slice none 0 0] 24 (0,0))) ∧ (w.heap.size ≤ s_.2.2) ∧ (w.heap.size ≤ s_.2.2) ∧ (gb731 ≠ s_.2.2) ∧ (s_.2.2 ≠ gb731) ∧ (gb732 ≠ s_.2.2) ∧ (s_.2.2 ≠ gb732) ∧ (Below w.heap.size w w')) ?_ ?_;rotate_left
        ·
         intro hJ0_3_9
         refine join_ (σ:=Value × Value × Nat) 4 #[true,true,true,false,true,true,true,false,false,true,false] (fun s_ => [(9,s_.1),(13,s_.2.1),(3,.pointer (some ⟨s_.2.2,0,none⟩))]) (fun s_ w' => (w'.cell? ⟨gb731,0,none⟩ = some (.slice A0_0 l0_0.length c0_0) ∧ w'.cell? ⟨gb731,1,none⟩ = some (.slice A0_1 l0_1.length c0_1) ∧ w'.cell? ⟨gb731,2,none⟩ = some (.slice A0_2 l0_2.length c0_2)) ∧ (Kd.R (Kd.int .i64) 3 w' w.heap.size (fun k_ => some k_ ≠ (s_.2.1 : Value).ownBlock) s_.1 y734) ∧ (Kd.R (Kd.int .i64) 3 w' w.heap.size (fun k_ => some k_ ≠ (s_.1 : Value).ownBlock) s_.2.1 y740) ∧ (w'.heap[gb731]? = some (.cells #[.slice A0_0 l0_0.length c0_0,.slice A0_1 l0_1.length c0_1,.slice A0_2 l0_2.length c0_2] 24 (0,0))) ∧ (w'.heap[gb732]? = some (.cells #[.slice none 0 0,.slice none 0 0,.slice none 0 0] 24 (0,0))) ∧ (w'.heap[s_.2.2]? = some (.cells #[.slice none 0 0,.slice none 0 0,.slice none 0 0] 24 (0,0))) ∧ (w.heap.size ≤ s_.2.2) ∧ (w.heap.size ≤ s_.2.2) ∧ (gb731 ≠ s_.2.2) ∧ (s_.2.2 ≠ gb731) ∧ (gb732 ≠ s_.2.2) ∧ (s_.2.2 ≠ gb732) ∧ (Below w.heap.size w w')) ?_ ?_;rotate_left
         ·
          intro hJ0_4_9
          refine join_ (σ:=Value × Value) 5 #[true,true,true,true,false,true,true,false,false,false,false] (fun s_ => [(9,s_.1),(12,s_.2)]) (fun s_ w' => (w'.cell? ⟨gb731,0,none⟩ = some (.slice A0_0 l0_0.length c0_0) ∧ w'.cell? ⟨gb731,1,none⟩ = some (.slice A0_1 l0_1.length c0_1) ∧ w'.cell? ⟨gb731,2,none⟩ = some (.slice A0_2 l0_2.length c0_2)) ∧ (Kd.R (Kd.int .i64) 3 w' w.heap.size (fun _ => True) s_.2 y737) ∧ (w'.heap[gb731]? = some (.cells #[.slice A0_0 l0_0.length c0_0,.slice A0_1 l0_1.length c0_1,.slice A0_2 l0_2.length c0_2] 24 (0,0))) ∧ (w'.heap[gb732]? = some (.cells #[.slice none 0 0,.slice none 0 0,.slice none 0 0] 24 (0,0))) ∧ (Below w.heap.size w w')) ?_ ?_;rotate_left
          ·
           intro hJ0_3
           refine join_ (σ:=Value × Value) 5 #[true,true,true,false,true,true,true,false,false,false,false] (fun s_ => [(9,s_.1),(13,s_.2)]) (fun s_ w' => (w'.cell? ⟨gb731,0,none⟩ = some (.slice A0_0 l0_0.length c0_0) ∧ w'.cell? ⟨gb731,1,none⟩ = some (.slice A0_1 l0_1.length c0_1) ∧ w'.cell? ⟨gb731,2,none⟩ = some (.slice A0_2 l0_2.length c0_2)) ∧ (Kd.R (Kd.int .i64) 3 w' w.heap.size (fun k_ => some k_ ≠ (s_.2 : Value).ownBlock) s_.1 y734) ∧ (Kd.R (Kd.int .i64) 3 w' w.heap.size (fun k_ => some k_ ≠ (s_.1 : Value).ownBlock) s_.2 y740) ∧ (w'.heap[gb731]? = some (.cells #[.slice A0_0 l0_0.length c0_0,.slice A0_1 l0_1.length c0_1,.slice A0_2 l0_2.length c0_2] 24 (0,0))) ∧ (w'.heap[gb732]? = some (.cells #[.slice none 0 0,.slice none 0 0,.slice none 0 0] 24 (0,0))) ∧ (Below w.heap.size w w')) ?_ ?_;rotate_left
           ·
            intro hJ0_4
            refine join_ (σ:=Value × Nat) 5 #[true,true,true,false,false,true,true,false,false,true,false] (fun s_ => [(9,s_.1),(3,.pointer (some ⟨s_.2,0,none⟩))]) (fun s_ w' => (w'.cell? ⟨gb731,0,none⟩ = some (.slice A0_0 l0_0.length c0_0) ∧ w'.cell? ⟨gb731,1,none⟩ = some (.slice A0_1 l0_1.length c0_1) ∧ w'.cell? ⟨gb731,2,none⟩ = some (.slice A0_2 l0_2.length c0_2)) ∧ (Kd.R (Kd.int .i64) 3 w' w.heap.size (fun _ => True) s_.1 y734) ∧ (w'.heap[gb731]? = some (.cells #[.slice A0_0 l0_0.length c0_0,.slice A0_1 l0_1.length c0_1,.slice A0_2 l0_2.length c0_2] 24 (0,0))) ∧ (w'.heap[gb732]? = some (.cells #[.slice none 0 0,.slice none 0 0,.slice none 0 0] 24 (0,0))) ∧ (w'.heap[s_.2]? = some (.cells #[.slice none 0 0,.slice none 0 0,.slice none 0 0] 24 (0,0))) ∧ (w.heap.size ≤ s_.2) ∧ (w.heap.size ≤ s_.2) ∧ (gb731 ≠ s_.2) ∧ (s_.2 ≠ gb731) ∧ (gb732 ≠ s_.2) ∧ (s_.2 ≠ gb732) ∧ (Below w.heap.size w w')) ?_ ?_;rotate_left
            ·
             intro hJ0_9
             refine join_ (σ:=Value × Nat) 5 #[false,true,true,false,true,true,true,false,false,true,false] (fun s_ => [(13,s_.1),(3,.pointer (some ⟨s_.2,0,none⟩))]) (fun s_ w' => (w'.cell? ⟨gb731,0,none⟩ = some (.slice A0_0 l0_0.length c0_0) ∧ w'.cell? ⟨gb731,1,none⟩ = some (.slice A0_1 l0_1.length c0_1) ∧ w'.cell? ⟨gb731,2,none⟩ = some (.slice A0_2 l0_2.length c0_2)) ∧ (Kd.R (Kd.int .i64) 3 w' w.heap.size (fun _ => True) s_.1 y740) ∧ (w'.heap[gb731]? = some (.cells #[.slice A0_0 l0_0.length c0_0,.slice A0_1 l0_1.length c0_1,.slice A0_2 l0_2.length c0_2] 24 (0,0))) ∧ (w'.heap[gb732]? = some (.cells #[.slice none 0 0,.slice none 0 0,.slice none 0 0] 24 (0,0))) ∧ (w'.heap[s_.2]? = some (.cells #[.slice none 0 0,.slice none 0 0,.slice none 0 0] 24 (0,0))) ∧ (w.heap.size ≤ s_.2) ∧ (w.heap.size ≤ s_.2) ∧ (gb731 ≠ s_.2) ∧ (s_.2 ≠ gb731) ∧ (gb732 ≠ s_.2) ∧ (s_.2 ≠ gb732) ∧ (Below w.heap.size w w')) ?_ ?_;rotate_left
             ·
              intro hJ4_9
              refine join_ (σ:=Value) 6 #[true,true,true,false,false,true,true,false,false,false,false] (fun s_ => [(9,s_)]) (fun s_ w' => (w'.cell? ⟨gb731,0,none⟩ = some (.slice A0_0 l0_0.length c0_0) ∧ w'.cell? ⟨gb731,1,none⟩ = some (.slice A0_1 l0_1.length c0_1) ∧ w'.cell? ⟨gb731,2,none⟩ = some (.slice A0_2 l0_2.length c0_2)) ∧ (Kd.R (Kd.int .i64) 3 w' w.heap.size (fun _ => True) s_ y734) ∧ (w'.heap[gb731]? = some (.cells #[.slice A0_0 l0_0.length c0_0,.slice A0_1 l0_1.length c0_1,.slice A0_2 l0_2.length c0_2] 24 (0,0))) ∧ (w'.heap[gb732]? = some (.cells #[.slice none 0 0,.slice none 0 0,.slice none 0 0] 24 (0,0))) ∧ (Below w.heap.size w w')) ?_ ?_;rotate_left
              ·
               intro hJ0
               refine join_ (σ:=Value) 6 #[false,true,true,false,true,true,true,false,false,false,false] (fun s_ => [(13,s_)]) (fun s_ w' => (w'.cell? ⟨gb731,0,none⟩ = some (.slice A0_0 l0_0.length c0_0) ∧ w'.cell? ⟨gb731,1,none⟩ = some (.slice A0_1 l0_1.length c0_1) ∧ w'.cell? ⟨gb731,2,none⟩ = some (.slice A0_2 l0_2.length c0_2)) ∧ (Kd.R (Kd.int .i64) 3 w' w.heap.size (fun _ => True) s_ y740) ∧ (w'.heap[gb731]? = some (.cells #[.slice A0_0 l0_0.length c0_0,.slice A0_1 l0_1.length c0_1,.slice A0_2 l0_2.length c0_2] 24 (0,0))) ∧ (w'.heap[gb732]? = some (.cells #[.slice none 0 0,.slice none 0 0,.slice none 0 0] 24 (0,0))) ∧ (Below w.heap.size w w')) ?_ ?_;rotate_left
               ·
                intro hJ4
                refine join_ (σ:=Nat) 6 #[false,true,true,false,false,true,true,false,false,true,false] (fun s_ => [(3,.pointer (some ⟨s_,0,none⟩))]) (fun s_ w' => (w'.cell? ⟨gb731,0,none⟩ = some (.slice A0_0 l0_0.length c0_0) ∧ w'.cell? ⟨gb731,1,none⟩ = some (.slice A0_1 l0_1.length c0_1) ∧ w'.cell? ⟨gb731,2,none⟩ = some (.slice A0_2 l0_2.length c0_2)) ∧ (w'.heap[gb731]? = some (.cells #[.slice A0_0 l0_0.length c0_0,.slice A0_1 l0_1.length c0_1,.slice A0_2 l0_2.length c0_2] 24 (0,0))) ∧ (w'.heap[gb732]? = some (.cells #[.slice none 0 0,.slice none 0 0,.slice none 0 0] 24 (0,0))) ∧ (w'.heap[s_]? = some (.cells #[.slice none 0 0,.slice none 0 0,.slice none 0 0] 24 (0,0))) ∧ (w.heap.size ≤ s_) ∧ (w.heap.size ≤ s_) ∧ (gb731 ≠ s_) ∧ (s_ ≠ gb731) ∧ (gb732 ≠ s_) ∧ (s_ ≠ gb732) ∧ (Below w.heap.size w w')) ?_ ?_;rotate_left
                ·
                 intro hJ9
                 refine three_ (i:=0) (j:=4) (k:=9) (Ni:=some 9) (Nj:=some 13) (Nk:=some 3) #[true,true,true,false,false,true,true,false,false,false,false] #[false,true,true,false,true,true,true,false,false,false,false] #[false,true,true,false,false,true,true,false,false,true,false] rfl rfl rfl rfl rfl rfl (three_of HT_.out (by kernel_rfl)) (by decide) (by decide) (by decide) (fun K hK => ?_) (fun K hK => ?_) (fun K hK => ?_)
                 ·
                  skip
                  refine Kd.R_lit_step (Kd.int .i64) _ 3 ?hg (N:=9) ?hd (xs:=([] : List Int)) (inner:=[]) (ok:=fun _ => True) (okp:=fun _ => True) ?hr ?hp (fun _ hk => hk) trivial (Below.refl _ _) (Nat.le_refl _) (by simp) ?_;(case hd => rfl);(case hg => rfl);(case hr => first|(go_simp;done)|(go_simp;rfl));(case hp => exact (Reps.none _ _));intro v735 w12 ho13 hb hg_ hnew_;clear hg_ hnew_
                  (first|rw [← Ny734.out] at ho13|(simp only [Int.reduceToNat] at ho13;rw [← Ny734.out] at ho13));have n0_:=Aside0.mk (Kd.R_lower ho13 (below_size (by repeat (first|(with_reducible first|exact HB.out|apply below_alloc|apply pw_below_drewN|apply below_drew1|refine below_set ?_ GE731.out|refine below_set ?_ GE732.out)|exact HB.out))));have n1_:=Aside0.mk (blk_below (g:=gb731) (o:=.cells #[.slice A0_0 l0_0.length c0_0,.slice A0_1 l0_1.length c0_1,.slice A0_2 l0_2.length c0_2] 24 (0,0)) (by (with_reducible repeat (first|refine blk_drewN ?_ _|refine blk_drew ?_|refine blk_alloc ?_ _));exact BK731.out) hb);have n2_:=Aside0.mk (blk_below (g:=gb732) (o:=.cells #[.slice none 0 0,.slice none 0 0,.slice none 0 0] 24 (0,0)) (by (with_reducible repeat (first|refine blk_drewN ?_ _|refine blk_drew ?_|refine blk_alloc ?_ _));exact BK732.out) hb);have n3_:=Aside0.mk (below_step (by repeat (first|(with_reducible first|exact HB.out|apply below_alloc|apply pw_below_drewN|apply below_drew1|refine below_set ?_ GE731.out|refine below_set ?_ GE732.out)|exact HB.out)) hb);clear BK731 BK732 HB;have HO736:=n0_;have BK731:=n1_;have BK732:=n2_;have HB:=n3_;clear n0_ n1_ n2_ n3_ hb ho13
                  refine hK.out _ _ ⟨(blk_cell BK731.out 0).trans rfl,(blk_cell BK731.out 1).trans rfl,(blk_cell BK731.out 2).trans rfl⟩ (fun hHeld => ?_);clear hK K
                  refine norm_ (a':=?_) ?_ ?_;rotate_left
                  ·
                   show Act.put _ (some 9) _ = _
                   simp only [Act.put,List.setIfInBounds_toArray,List.set_cons_zero,List.set_cons_succ,i64_w,i32_w]
                   rfl
                  exact norm_ (by first|(simp only [putAll,Act.put,List.setIfInBounds_toArray,List.set_cons_zero,List.set_cons_succ];done)|(simp only [putAll,Act.put,List.setIfInBounds_toArray,List.set_cons_zero,List.set_cons_succ];rfl)) (hJ0 (v735) _ ⟨hHeld,(by (with_reducible repeat (first|apply Kd.R_alloc|apply Kd.R_drewN|apply Kd.R_drew));exact HO736.out),(by (with_reducible repeat (first|refine blk_drewN ?_ _|refine blk_drew ?_|refine blk_alloc ?_ _));exact BK731.out),(by (with_reducible repeat (first|refine blk_drewN ?_ _|refine blk_drew ?_|refine blk_alloc ?_ _));exact BK732.out),(by repeat (first|(with_reducible first|exact HB.out|apply below_alloc|apply pw_below_drewN|apply below_drew1|refine below_set ?_ GE731.out|refine below_set ?_ GE732.out)|exact HB.out))⟩)
                 ·
                  skip
                  refine Kd.R_lit_step (Kd.int .i64) _ 3 ?hg (N:=13) ?hd (xs:=([] : List Int)) (inner:=[]) (ok:=fun _ => True) (okp:=fun _ => True) ?hr ?hp (fun _ hk => hk) trivial (Below.refl _ _) (Nat.le_refl _) (by simp) ?_;(case hd => rfl);(case hg => rfl);(case hr => first|(go_simp;done)|(go_simp;rfl));(case hp => exact (Reps.none _ _));intro v741 w12 ho13 hb hg_ hnew_;clear hg_ hnew_
                  (first|rw [← Ny740.out] at ho13|(simp only [Int.reduceToNat] at ho13;rw [← Ny740.out] at ho13));have n0_:=Aside0.mk (Kd.R_lower ho13 (below_size (by repeat (first|(with_reducible first|exact HB.out|apply below_alloc|apply pw_below_drewN|apply below_drew1|refine below_set ?_ GE731.out|refine below_set ?_ GE732.out)|exact HB.out))));have n1_:=Aside0.mk (blk_below (g:=gb731) (o:=.cells #[.slice A0_0 l0_0.length c0_0,.slice A0_1 l0_1.length c0_1,.slice A0_2 l0_2.length c0_2] 24 (0,0)) (by (with_reducible repeat (first|refine blk_drewN ?_ _|refine blk_drew ?_|refine blk_alloc ?_ _));exact BK731.out) hb);have n2_:=Aside0.mk (blk_below (g:=gb732) (o:=.cells #[.slice none 0 0,.slice none 0 0,.slice none 0 0] 24 (0,0)) (by (with_reducible repeat (first|refine blk_drewN ?_ _|refine blk_drew ?_|refine blk_alloc ?_ _));exact BK732.out) hb);have n3_:=Aside0.mk (below_step (by repeat (first|(with_reducible first|exact HB.out|apply below_alloc|apply pw_below_drewN|apply below_drew1|refine below_set ?_ GE731.out|refine below_set ?_ GE732.out)|exact HB.out)) hb);clear BK731 BK732 HB;have HO742:=n0_;have BK731:=n1_;have BK732:=n2_;have HB:=n3_;clear n0_ n1_ n2_ n3_ hb ho13
                  refine hK.out _ _ ⟨(blk_cell BK731.out 0).trans rfl,(blk_cell BK731.out 1).trans rfl,(blk_cell BK731.out 2).trans rfl⟩ (fun hHeld => ?_);clear hK K
                  refine norm_ (a':=?_) ?_ ?_;rotate_left
                  ·
                   show Act.put _ (some 13) _ = _
                   simp only [Act.put,List.setIfInBounds_toArray,List.set_cons_zero,List.set_cons_succ,i64_w,i32_w]
                   rfl
                  exact norm_ (by first|(simp only [putAll,Act.put,List.setIfInBounds_toArray,List.set_cons_zero,List.set_cons_succ];done)|(simp only [putAll,Act.put,List.setIfInBounds_toArray,List.set_cons_zero,List.set_cons_succ];rfl)) (hJ4 (v741) _ ⟨hHeld,(by (with_reducible repeat (first|apply Kd.R_alloc|apply Kd.R_drewN|apply Kd.R_drew));exact HO742.out),(by (with_reducible repeat (first|refine blk_drewN ?_ _|refine blk_drew ?_|refine blk_alloc ?_ _));exact BK731.out),(by (with_reducible repeat (first|refine blk_drewN ?_ _|refine blk_drew ?_|refine blk_alloc ?_ _));exact BK732.out),(by repeat (first|(with_reducible first|exact HB.out|apply below_alloc|apply pw_below_drewN|apply below_drew1|refine below_set ?_ GE731.out|refine below_set ?_ GE732.out)|exact HB.out))⟩)
                 ·
                  skip
                  refine box_step ?hg (N:=3) ?hd (cs:=#[.slice none 0 0,.slice none 0 0,.slice none 0 0]) (t:=24) ?hr ?_;(case hd => rfl);(case hg => rfl);(case hr => first|(go_simp;done)|(go_simp;rfl));intro gb746 hg w12 hbox hb;have n0_:=Aside0.mk (blk_below (g:=gb731) (o:=.cells #[.slice A0_0 l0_0.length c0_0,.slice A0_1 l0_1.length c0_1,.slice A0_2 l0_2.length c0_2] 24 (0,0)) (by (with_reducible repeat (first|refine blk_drewN ?_ _|refine blk_drew ?_|refine blk_alloc ?_ _));exact BK731.out) hb);have n1_:=Aside0.mk (blk_below (g:=gb732) (o:=.cells #[.slice none 0 0,.slice none 0 0,.slice none 0 0] 24 (0,0)) (by (with_reducible repeat (first|refine blk_drewN ?_ _|refine blk_drew ?_|refine blk_alloc ?_ _));exact BK732.out) hb);have n2_:=Aside0.mk (below_step (by repeat (first|(with_reducible first|exact HB.out|apply below_alloc|apply pw_below_drewN|apply below_drew1|refine below_set ?_ GE731.out|refine below_set ?_ GE732.out)|exact HB.out)) hb);have n3_:=Aside0.mk (hbox);have n4_:=Aside0.mk ((by rw [hg];exact (below_size (by repeat (first|(with_reducible first|exact HB.out|apply below_alloc|apply pw_below_drewN|apply below_drew1|refine below_set ?_ GE731.out|refine below_set ?_ GE732.out)|exact HB.out))) : w.heap.size ≤ gb746));have n5_:=Aside0.mk ((by rw [hg];exact (below_size (by repeat (first|(with_reducible first|exact HB.out|apply below_alloc|apply pw_below_drewN|apply below_drew1|refine below_set ?_ GE731.out|refine below_set ?_ GE732.out)|exact HB.out))) : w.heap.size ≤ gb746))
                  have n6_:=Aside0.mk ((by rw [hg];exact Nat.ne_of_lt (blk_lt (g:=gb731) (o:=.cells #[.slice A0_0 l0_0.length c0_0,.slice A0_1 l0_1.length c0_1,.slice A0_2 l0_2.length c0_2] 24 (0,0)) (by (with_reducible repeat (first|refine blk_drewN ?_ _|refine blk_drew ?_|refine blk_alloc ?_ _));exact BK731.out)) : gb731 ≠ gb746));have n7_:=Aside0.mk ((by rw [hg];exact Nat.ne_of_gt (blk_lt (g:=gb731) (o:=.cells #[.slice A0_0 l0_0.length c0_0,.slice A0_1 l0_1.length c0_1,.slice A0_2 l0_2.length c0_2] 24 (0,0)) (by (with_reducible repeat (first|refine blk_drewN ?_ _|refine blk_drew ?_|refine blk_alloc ?_ _));exact BK731.out)) : gb746 ≠ gb731));have n8_:=Aside0.mk ((by rw [hg];exact Nat.ne_of_lt (blk_lt (g:=gb732) (o:=.cells #[.slice none 0 0,.slice none 0 0,.slice none 0 0] 24 (0,0)) (by (with_reducible repeat (first|refine blk_drewN ?_ _|refine blk_drew ?_|refine blk_alloc ?_ _));exact BK732.out)) : gb732 ≠ gb746));have n9_:=Aside0.mk ((by rw [hg];exact Nat.ne_of_gt (blk_lt (g:=gb732) (o:=.cells #[.slice none 0 0,.slice none 0 0,.slice none 0 0] 24 (0,0)) (by (with_reducible repeat (first|refine blk_drewN ?_ _|refine blk_drew ?_|refine blk_alloc ?_ _));exact BK732.out)) : gb746 ≠ gb732));clear BK731 BK732 HB;have BK731:=n0_;have BK732:=n1_;have HB:=n2_;have BK746:=n3_;have GW746:=n4_;have GE746:=n5_;have NB731_746:=n6_;have NB746_731:=n7_;have NB732_746:=n8_
                  have NB746_732:=n9_;clear n0_ n1_ n2_ n3_ n4_ n5_ n6_ n7_ n8_ n9_ hb hbox hg
                  refine hK.out _ _ ⟨(blk_cell BK731.out 0).trans rfl,(blk_cell BK731.out 1).trans rfl,(blk_cell BK731.out 2).trans rfl⟩ (fun hHeld => ?_);clear hK K
                  refine norm_ (a':=?_) ?_ ?_;rotate_left
                  ·
                   show Act.put _ (some 3) _ = _
                   simp only [Act.put,List.setIfInBounds_toArray,List.set_cons_zero,List.set_cons_succ,i64_w,i32_w]
                   rfl
                  exact norm_ (by first|(simp only [putAll,Act.put,List.setIfInBounds_toArray,List.set_cons_zero,List.set_cons_succ];done)|(simp only [putAll,Act.put,List.setIfInBounds_toArray,List.set_cons_zero,List.set_cons_succ];rfl)) (hJ9 (gb746) _ ⟨hHeld,(by (with_reducible repeat (first|refine blk_drewN ?_ _|refine blk_drew ?_|refine blk_alloc ?_ _));exact BK731.out),(by (with_reducible repeat (first|refine blk_drewN ?_ _|refine blk_drew ?_|refine blk_alloc ?_ _));exact BK732.out),(by (with_reducible repeat (first|refine blk_drewN ?_ _|refine blk_drew ?_|refine blk_alloc ?_ _));exact BK746.out),GW746.out,GE746.out,NB731_746.out,NB746_731.out,NB732_746.out,NB746_732.out,(by repeat (first|(with_reducible first|exact HB.out|apply below_alloc|apply pw_below_drewN|apply below_drew1|refine below_set ?_ GE731.out|refine below_set ?_ GE732.out|refine below_set ?_ GE746.out)|exact HB.out))⟩)
                ·
                 skip
                 rintro gb746 w13 ⟨hS_,h0_,h1_,h2_,h3_,h4_,h5_,h6_,h7_,h8_,h9_⟩
                 have n0_ : Aside0 (w13.heap[gb731]? = some (.cells #[.slice A0_0 l0_0.length c0_0,.slice A0_1 l0_1.length c0_1,.slice A0_2 l0_2.length c0_2] 24 (0,0))):=⟨h0_⟩
                 have n1_ : Aside0 (w13.heap[gb732]? = some (.cells #[.slice none 0 0,.slice none 0 0,.slice none 0 0] 24 (0,0))):=⟨h1_⟩
                 have n2_ : Aside0 (w13.heap[gb746]? = some (.cells #[.slice none 0 0,.slice none 0 0,.slice none 0 0] 24 (0,0))):=⟨h2_⟩
                 have n3_ : Aside0 (w.heap.size ≤ gb746):=⟨h3_⟩
                 have n4_ : Aside0 (w.heap.size ≤ gb746):=⟨h4_⟩
                 have n5_ : Aside0 (gb731 ≠ gb746):=⟨h5_⟩
                 have n6_ : Aside0 (gb746 ≠ gb731):=⟨h6_⟩
                 have n7_ : Aside0 (gb732 ≠ gb746):=⟨h7_⟩
                 have n8_ : Aside0 (gb746 ≠ gb732):=⟨h8_⟩
                 have n9_ : Aside0 (Below w.heap.size w w13):=⟨h9_⟩;clear BK731 BK732 HB h0_ h1_ h2_ h3_ h4_ h5_ h6_ h7_ h8_ h9_;have BK731:=n0_;have BK732:=n1_;have BK746:=n2_;have GW746:=n3_;have GE746:=n4_;have NB731_746:=n5_;have NB746_731:=n6_;have NB732_746:=n7_;have NB746_732:=n8_;have HB:=n9_;clear n0_ n1_ n2_ n3_ n4_ n5_ n6_ n7_ n8_ n9_
                 have hHeld : w13.cell? ⟨gb731,0,none⟩ = some (.slice A0_0 l0_0.length c0_0) ∧ w13.cell? ⟨gb731,1,none⟩ = some (.slice A0_1 l0_1.length c0_1) ∧ w13.cell? ⟨gb731,2,none⟩ = some (.slice A0_2 l0_2.length c0_2):=hS_
                 refine norm_ (a':=?_) ?_ ?_;rotate_left
                 ·
                  simp only [putAll,Act.put,List.setIfInBounds_toArray,List.set_cons_zero,List.set_cons_succ]
                  rfl
                 refine two_ (i:=0) (j:=4) (Ni:=some 9) (Nj:=some 13) #[true,true,true,false,false,true,true,false,false,true,false] #[false,true,true,false,true,true,true,false,false,true,false] rfl rfl rfl rfl (two_of HT_.out (by kernel_rfl)) (by decide) (by decide) (fun K hK => ?_) (fun K hK => ?_)
                 ·
                  skip
                  refine Kd.R_lit_step (Kd.int .i64) _ 3 ?hg (N:=9) ?hd (xs:=([] : List Int)) (inner:=[]) (ok:=fun _ => True) (okp:=fun _ => True) ?hr ?hp (fun _ hk => hk) trivial (Below.refl _ _) (Nat.le_refl _) (by simp) ?_;(case hd => rfl);(case hg => rfl);(case hr => first|(go_simp;done)|(go_simp;rfl));(case hp => exact (Reps.none _ _));intro v735 w14 ho15 hb hg_ hnew_;clear hg_ hnew_
                  (first|rw [← Ny734.out] at ho15|(simp only [Int.reduceToNat] at ho15;rw [← Ny734.out] at ho15));have n0_:=Aside0.mk (Kd.R_lower ho15 (below_size (by repeat (first|(with_reducible first|exact HB.out|apply below_alloc|apply pw_below_drewN|apply below_drew1|refine below_set ?_ GE731.out|refine below_set ?_ GE732.out|refine below_set ?_ GE746.out)|exact HB.out))));have n1_:=Aside0.mk (blk_below (g:=gb731) (o:=.cells #[.slice A0_0 l0_0.length c0_0,.slice A0_1 l0_1.length c0_1,.slice A0_2 l0_2.length c0_2] 24 (0,0)) (by (with_reducible repeat (first|refine blk_drewN ?_ _|refine blk_drew ?_|refine blk_alloc ?_ _));exact BK731.out) hb);have n2_:=Aside0.mk (blk_below (g:=gb732) (o:=.cells #[.slice none 0 0,.slice none 0 0,.slice none 0 0] 24 (0,0)) (by (with_reducible repeat (first|refine blk_drewN ?_ _|refine blk_drew ?_|refine blk_alloc ?_ _));exact BK732.out) hb);have n3_:=Aside0.mk (blk_below (g:=gb746) (o:=.cells #[.slice none 0 0,.slice none 0 0,.slice none 0 0] 24 (0,0)) (by (with_reducible repeat (first|refine blk_drewN ?_ _|refine blk_drew ?_|refine blk_alloc ?_ _));exact BK746.out) hb);have n4_:=Aside0.mk (below_step (by repeat (first|(with_reducible first|exact HB.out|apply below_alloc|apply pw_below_drewN|apply below_drew1|refine below_set ?_ GE731.out|refine below_set ?_ GE732.out|refine below_set ?_ GE746.out)|exact HB.out)) hb);clear BK731
                  clear BK732 BK746 HB;have HO736:=n0_;have BK731:=n1_;have BK732:=n2_;have BK746:=n3_;have HB:=n4_;clear n0_ n1_ n2_ n3_ n4_ hb ho15
                  refine hK.out _ _ ⟨(blk_cell BK731.out 0).trans rfl,(blk_cell BK731.out 1).trans rfl,(blk_cell BK731.out 2).trans rfl⟩ (fun hHeld => ?_);clear hK K
                  refine norm_ (a':=?_) ?_ ?_;rotate_left
                  ·
                   show Act.put _ (some 9) _ = _
                   simp only [Act.put,List.setIfInBounds_toArray,List.set_cons_zero,List.set_cons_succ,i64_w,i32_w]
                   rfl
                  exact norm_ (by first|(simp only [putAll,Act.put,List.setIfInBounds_toArray,List.set_cons_zero,List.set_cons_succ];done)|(simp only [putAll,Act.put,List.setIfInBounds_toArray,List.set_cons_zero,List.set_cons_succ];rfl)) (hJ0_9 (v735,gb746) _ ⟨hHeld,(by (with_reducible repeat (first|apply Kd.R_alloc|apply Kd.R_drewN|apply Kd.R_drew));exact HO736.out),(by (with_reducible repeat (first|refine blk_drewN ?_ _|refine blk_drew ?_|refine blk_alloc ?_ _));exact BK731.out),(by (with_reducible repeat (first|refine blk_drewN ?_ _|refine blk_drew ?_|refine blk_alloc ?_ _));exact BK732.out),(by (with_reducible repeat (first|refine blk_drewN ?_ _|refine blk_drew ?_|refine blk_alloc ?_ _));exact BK746.out),GW746.out,GE746.out,NB731_746.out,NB746_731.out,NB732_746.out,NB746_732.out,(by repeat (first|(with_reducible first|exact HB.out|apply below_alloc|apply pw_below_drewN|apply below_drew1|refine below_set ?_ GE731.out|refine below_set ?_ GE732.out|refine below_set ?_ GE746.out)|exact HB.out))⟩)
                 ·
                  skip
                  refine Kd.R_lit_step (Kd.int .i64) _ 3 ?hg (N:=13) ?hd (xs:=([] : List Int)) (inner:=[]) (ok:=fun _ => True) (okp:=fun _ => True) ?hr ?hp (fun _ hk => hk) trivial (Below.refl _ _) (Nat.le_refl _) (by simp) ?_;(case hd => rfl);(case hg => rfl);(case hr => first|(go_simp;done)|(go_simp;rfl));(case hp => exact (Reps.none _ _));intro v741 w14 ho15 hb hg_ hnew_;clear hg_ hnew_
                  (first|rw [← Ny740.out] at ho15|(simp only [Int.reduceToNat] at ho15;rw [← Ny740.out] at ho15));have n0_:=Aside0.mk (Kd.R_lower ho15 (below_size (by repeat (first|(with_reducible first|exact HB.out|apply below_alloc|apply pw_below_drewN|apply below_drew1|refine below_set ?_ GE731.out|refine below_set ?_ GE732.out|refine below_set ?_ GE746.out)|exact HB.out))));have n1_:=Aside0.mk (blk_below (g:=gb731) (o:=.cells #[.slice A0_0 l0_0.length c0_0,.slice A0_1 l0_1.length c0_1,.slice A0_2 l0_2.length c0_2] 24 (0,0)) (by (with_reducible repeat (first|refine blk_drewN ?_ _|refine blk_drew ?_|refine blk_alloc ?_ _));exact BK731.out) hb);have n2_:=Aside0.mk (blk_below (g:=gb732) (o:=.cells #[.slice none 0 0,.slice none 0 0,.slice none 0 0] 24 (0,0)) (by (with_reducible repeat (first|refine blk_drewN ?_ _|refine blk_drew ?_|refine blk_alloc ?_ _));exact BK732.out) hb);have n3_:=Aside0.mk (blk_below (g:=gb746) (o:=.cells #[.slice none 0 0,.slice none 0 0,.slice none 0 0] 24 (0,0)) (by (with_reducible repeat (first|refine blk_drewN ?_ _|refine blk_drew ?_|refine blk_alloc ?_ _));exact BK746.out) hb);have n4_:=Aside0.mk (below_step (by repeat (first|(with_reducible first|exact HB.out|apply below_alloc|apply pw_below_drewN|apply below_drew1|refine below_set ?_ GE731.out|refine below_set ?_ GE732.out|refine below_set ?_ GE746.out)|exact HB.out)) hb);clear BK731
                  clear BK732 BK746 HB;have HO742:=n0_;have BK731:=n1_;have BK732:=n2_;have BK746:=n3_;have HB:=n4_;clear n0_ n1_ n2_ n3_ n4_ hb ho15
                  refine hK.out _ _ ⟨(blk_cell BK731.out 0).trans rfl,(blk_cell BK731.out 1).trans rfl,(blk_cell BK731.out 2).trans rfl⟩ (fun hHeld => ?_);clear hK K
                  refine norm_ (a':=?_) ?_ ?_;rotate_left
                  ·
                   show Act.put _ (some 13) _ = _
                   simp only [Act.put,List.setIfInBounds_toArray,List.set_cons_zero,List.set_cons_succ,i64_w,i32_w]
                   rfl
                  exact norm_ (by first|(simp only [putAll,Act.put,List.setIfInBounds_toArray,List.set_cons_zero,List.set_cons_succ];done)|(simp only [putAll,Act.put,List.setIfInBounds_toArray,List.set_cons_zero,List.set_cons_succ];rfl)) (hJ4_9 (v741,gb746) _ ⟨hHeld,(by (with_reducible repeat (first|apply Kd.R_alloc|apply Kd.R_drewN|apply Kd.R_drew));exact HO742.out),(by (with_reducible repeat (first|refine blk_drewN ?_ _|refine blk_drew ?_|refine blk_alloc ?_ _));exact BK731.out),(by (with_reducible repeat (first|refine blk_drewN ?_ _|refine blk_drew ?_|refine blk_alloc ?_ _));exact BK732.out),(by (with_reducible repeat (first|refine blk_drewN ?_ _|refine blk_drew ?_|refine blk_alloc ?_ _));exact BK746.out),GW746.out,GE746.out,NB731_746.out,NB746_731.out,NB732_746.out,NB746_732.out,(by repeat (first|(with_reducible first|exact HB.out|apply below_alloc|apply pw_below_drewN|apply below_drew1|refine below_set ?_ GE731.out|refine below_set ?_ GE732.out|refine below_set ?_ GE746.out)|exact HB.out))⟩)
               ·
                skip
                rintro v741 w14 ⟨hS_,h0_,h1_,h2_,h3_⟩
                have n0_ : Aside0 (Kd.R (Kd.int .i64) 3 w14 w.heap.size (fun _ => True) v741 y740):=⟨h0_⟩
                have n1_ : Aside0 (w14.heap[gb731]? = some (.cells #[.slice A0_0 l0_0.length c0_0,.slice A0_1 l0_1.length c0_1,.slice A0_2 l0_2.length c0_2] 24 (0,0))):=⟨h1_⟩
                have n2_ : Aside0 (w14.heap[gb732]? = some (.cells #[.slice none 0 0,.slice none 0 0,.slice none 0 0] 24 (0,0))):=⟨h2_⟩
                have n3_ : Aside0 (Below w.heap.size w w14):=⟨h3_⟩;clear BK731 BK732 HB h0_ h1_ h2_ h3_;have HO742:=n0_;have BK731:=n1_;have BK732:=n2_;have HB:=n3_;clear n0_ n1_ n2_ n3_
                have hHeld : w14.cell? ⟨gb731,0,none⟩ = some (.slice A0_0 l0_0.length c0_0) ∧ w14.cell? ⟨gb731,1,none⟩ = some (.slice A0_1 l0_1.length c0_1) ∧ w14.cell? ⟨gb731,2,none⟩ = some (.slice A0_2 l0_2.length c0_2):=hS_
                refine norm_ (a':=?_) ?_ ?_;rotate_left
                ·
                 simp only [putAll,Act.put,List.setIfInBounds_toArray,List.set_cons_zero,List.set_cons_succ]
                 rfl
                refine two_ (i:=0) (j:=9) (Ni:=some 9) (Nj:=some 3) #[true,true,true,false,true,true,true,false,false,false,false] #[false,true,true,false,true,true,true,false,false,true,false] rfl rfl rfl rfl (two_of HT_.out (by kernel_rfl)) (by decide) (by decide) (fun K hK => ?_) (fun K hK => ?_)
                ·
                 skip
                 refine Kd.R_lit_step (Kd.int .i64) _ 3 ?hg (N:=9) ?hd (xs:=([] : List Int)) (inner:=[]) (ok:=fun _ => True) (okp:=fun _ => True) ?hr ?hp (fun _ hk => hk) trivial (Below.refl _ _) (Nat.le_refl _) (by simp) ?_;(case hd => rfl);(case hg => rfl);(case hr => first|(go_simp;done)|(go_simp;rfl));(case hp => exact (Reps.none _ _));intro v735 w15 ho16 hb hg_ hnew_;clear hg_ hnew_
                 (first|rw [← Ny734.out] at ho16|(simp only [Int.reduceToNat] at ho16;rw [← Ny734.out] at ho16));have n0_:=Aside0.mk (Kd.R_elder' (by (with_reducible repeat (first|apply Kd.R_alloc|apply Kd.R_drewN|apply Kd.R_drew));exact HO742.out) (Kd.R_base ho16) hb);have n1_:=Aside0.mk (Kd.R_lower (Kd.R_new' ho16 (Kd.R_lt (by (with_reducible repeat (first|apply Kd.R_alloc|apply Kd.R_drewN|apply Kd.R_drew));exact HO742.out))) (below_size (by repeat (first|(with_reducible first|exact HB.out|apply below_alloc|apply pw_below_drewN|apply below_drew1|refine below_set ?_ GE731.out|refine below_set ?_ GE732.out)|exact HB.out))));have n2_:=Aside0.mk (blk_below (g:=gb731) (o:=.cells #[.slice A0_0 l0_0.length c0_0,.slice A0_1 l0_1.length c0_1,.slice A0_2 l0_2.length c0_2] 24 (0,0)) (by (with_reducible repeat (first|refine blk_drewN ?_ _|refine blk_drew ?_|refine blk_alloc ?_ _));exact BK731.out) hb);have n3_:=Aside0.mk (blk_below (g:=gb732) (o:=.cells #[.slice none 0 0,.slice none 0 0,.slice none 0 0] 24 (0,0)) (by (with_reducible repeat (first|refine blk_drewN ?_ _|refine blk_drew ?_|refine blk_alloc ?_ _));exact BK732.out) hb);have n4_:=Aside0.mk (below_step (by repeat (first|(with_reducible first|exact HB.out|apply below_alloc|apply pw_below_drewN|apply below_drew1|refine below_set ?_ GE731.out|refine below_set ?_ GE732.out)|exact HB.out)) hb);clear HO742 BK731 BK732
                 clear HB;have HO742:=n0_;have HO736:=n1_;have BK731:=n2_;have BK732:=n3_;have HB:=n4_;clear n0_ n1_ n2_ n3_ n4_ hb ho16
                 refine hK.out _ _ ⟨(blk_cell BK731.out 0).trans rfl,(blk_cell BK731.out 1).trans rfl,(blk_cell BK731.out 2).trans rfl⟩ (fun hHeld => ?_);clear hK K
                 refine norm_ (a':=?_) ?_ ?_;rotate_left
                 ·
                  show Act.put _ (some 9) _ = _
                  simp only [Act.put,List.setIfInBounds_toArray,List.set_cons_zero,List.set_cons_succ,i64_w,i32_w]
                  rfl
                 exact norm_ (by first|(simp only [putAll,Act.put,List.setIfInBounds_toArray,List.set_cons_zero,List.set_cons_succ];done)|(simp only [putAll,Act.put,List.setIfInBounds_toArray,List.set_cons_zero,List.set_cons_succ];rfl)) (hJ0_4 (v735,v741) _ ⟨hHeld,(by (with_reducible repeat (first|apply Kd.R_alloc|apply Kd.R_drewN|apply Kd.R_drew));exact Kd.R_mono HO736.out (fun _ hk => hk.2)),(by (with_reducible repeat (first|apply Kd.R_alloc|apply Kd.R_drewN|apply Kd.R_drew));exact Kd.R_mono HO742.out (fun _ hk => hk.2)),(by (with_reducible repeat (first|refine blk_drewN ?_ _|refine blk_drew ?_|refine blk_alloc ?_ _));exact BK731.out),(by (with_reducible repeat (first|refine blk_drewN ?_ _|refine blk_drew ?_|refine blk_alloc ?_ _));exact BK732.out),(by repeat (first|(with_reducible first|exact HB.out|apply below_alloc|apply pw_below_drewN|apply below_drew1|refine below_set ?_ GE731.out|refine below_set ?_ GE732.out)|exact HB.out))⟩)
                ·
                 skip
                 refine box_step ?hg (N:=3) ?hd (cs:=#[.slice none 0 0,.slice none 0 0,.slice none 0 0]) (t:=24) ?hr ?_;(case hd => rfl);(case hg => rfl);(case hr => first|(go_simp;done)|(go_simp;rfl));intro gb746 hg w15 hbox hb;have n0_:=Aside0.mk (Kd.R_below (by (with_reducible repeat (first|apply Kd.R_alloc|apply Kd.R_drewN|apply Kd.R_drew));exact HO742.out) hb);have n1_:=Aside0.mk (blk_below (g:=gb731) (o:=.cells #[.slice A0_0 l0_0.length c0_0,.slice A0_1 l0_1.length c0_1,.slice A0_2 l0_2.length c0_2] 24 (0,0)) (by (with_reducible repeat (first|refine blk_drewN ?_ _|refine blk_drew ?_|refine blk_alloc ?_ _));exact BK731.out) hb);have n2_:=Aside0.mk (blk_below (g:=gb732) (o:=.cells #[.slice none 0 0,.slice none 0 0,.slice none 0 0] 24 (0,0)) (by (with_reducible repeat (first|refine blk_drewN ?_ _|refine blk_drew ?_|refine blk_alloc ?_ _));exact BK732.out) hb);have n3_:=Aside0.mk (below_step (by repeat (first|(with_reducible first|exact HB.out|apply below_alloc|apply pw_below_drewN|apply below_drew1|refine below_set ?_ GE731.out|refine below_set ?_ GE732.out)|exact HB.out)) hb);have n4_:=Aside0.mk (hbox);have n5_:=Aside0.mk ((by rw [hg];exact (below_size (by repeat (first|(with_reducible first|exact HB.out|apply below_alloc|apply pw_below_drewN|apply below_drew1|refine below_set ?_ GE731.out|refine below_set ?_ GE732.out)|exact HB.out))) : w.heap.size ≤ gb746))
                 have n6_:=Aside0.mk ((by rw [hg];exact (below_size (by repeat (first|(with_reducible first|exact HB.out|apply below_alloc|apply pw_below_drewN|apply below_drew1|refine below_set ?_ GE731.out|refine below_set ?_ GE732.out)|exact HB.out))) : w.heap.size ≤ gb746));have n7_:=Aside0.mk ((by rw [hg];exact Nat.ne_of_lt (blk_lt (g:=gb731) (o:=.cells #[.slice A0_0 l0_0.length c0_0,.slice A0_1 l0_1.length c0_1,.slice A0_2 l0_2.length c0_2] 24 (0,0)) (by (with_reducible repeat (first|refine blk_drewN ?_ _|refine blk_drew ?_|refine blk_alloc ?_ _));exact BK731.out)) : gb731 ≠ gb746));have n8_:=Aside0.mk ((by rw [hg];exact Nat.ne_of_gt (blk_lt (g:=gb731) (o:=.cells #[.slice A0_0 l0_0.length c0_0,.slice A0_1 l0_1.length c0_1,.slice A0_2 l0_2.length c0_2] 24 (0,0)) (by (with_reducible repeat (first|refine blk_drewN ?_ _|refine blk_drew ?_|refine blk_alloc ?_ _));exact BK731.out)) : gb746 ≠ gb731));have n9_:=Aside0.mk ((by rw [hg];exact Nat.ne_of_lt (blk_lt (g:=gb732) (o:=.cells #[.slice none 0 0,.slice none 0 0,.slice none 0 0] 24 (0,0)) (by (with_reducible repeat (first|refine blk_drewN ?_ _|refine blk_drew ?_|refine blk_alloc ?_ _));exact BK732.out)) : gb732 ≠ gb746));have n10_:=Aside0.mk ((by rw [hg];exact Nat.ne_of_gt (blk_lt (g:=gb732) (o:=.cells #[.slice none 0 0,.slice none 0 0,.slice none 0 0] 24 (0,0)) (by (with_reducible repeat (first|refine blk_drewN ?_ _|refine blk_drew ?_|refine blk_alloc ?_ _));exact BK732.out)) : gb746 ≠ gb732))
                 clear HO742 BK731 BK732 HB;have HO742:=n0_;have BK731:=n1_;have BK732:=n2_;have HB:=n3_;have BK746:=n4_;have GW746:=n5_;have GE746:=n6_;have NB731_746:=n7_;have NB746_731:=n8_;have NB732_746:=n9_;have NB746_732:=n10_;clear n0_ n1_ n2_ n3_ n4_ n5_ n6_ n7_ n8_ n9_ n10_ hb hbox hg
                 refine hK.out _ _ ⟨(blk_cell BK731.out 0).trans rfl,(blk_cell BK731.out 1).trans rfl,(blk_cell BK731.out 2).trans rfl⟩ (fun hHeld => ?_);clear hK K
                 refine norm_ (a':=?_) ?_ ?_;rotate_left
                 ·
                  show Act.put _ (some 3) _ = _
                  simp only [Act.put,List.setIfInBounds_toArray,List.set_cons_zero,List.set_cons_succ,i64_w,i32_w]
                  rfl
                 exact norm_ (by first|(simp only [putAll,Act.put,List.setIfInBounds_toArray,List.set_cons_zero,List.set_cons_succ];done)|(simp only [putAll,Act.put,List.setIfInBounds_toArray,List.set_cons_zero,List.set_cons_succ];rfl)) (hJ4_9 (v741,gb746) _ ⟨hHeld,(by (with_reducible repeat (first|apply Kd.R_alloc|apply Kd.R_drewN|apply Kd.R_drew));exact HO742.out),(by (with_reducible repeat (first|refine blk_drewN ?_ _|refine blk_drew ?_|refine blk_alloc ?_ _));exact BK731.out),(by (with_reducible repeat (first|refine blk_drewN ?_ _|refine blk_drew ?_|refine blk_alloc ?_ _));exact BK732.out),(by (with_reducible repeat (first|refine blk_drewN ?_ _|refine blk_drew ?_|refine blk_alloc ?_ _));exact BK746.out),GW746.out,GE746.out,NB731_746.out,NB746_731.out,NB732_746.out,NB746_732.out,(by repeat (first|(with_reducible first|exact HB.out|apply below_alloc|apply pw_below_drewN|apply below_drew1|refine below_set ?_ GE731.out|refine below_set ?_ GE732.out|refine below_set ?_ GE746.out)|exact HB.out))⟩)
              ·
               skip
               rintro v735 w14 ⟨hS_,h0_,h1_,h2_,h3_⟩
               have n0_ : Aside0 (Kd.R (Kd.int .i64) 3 w14 w.heap.size (fun _ => True) v735 y734):=⟨h0_⟩
               have n1_ : Aside0 (w14.heap[gb731]? = some (.cells #[.slice A0_0 l0_0.length c0_0,.slice A0_1 l0_1.length c0_1,.slice A0_2 l0_2.length c0_2] 24 (0,0))):=⟨h1_⟩
               have n2_ : Aside0 (w14.heap[gb732]? = some (.cells #[.slice none 0 0,.slice none 0 0,.slice none 0 0] 24 (0,0))):=⟨h2_⟩
               have n3_ : Aside0 (Below w.heap.size w w14):=⟨h3_⟩;clear BK731 BK732 HB h0_ h1_ h2_ h3_;have HO736:=n0_;have BK731:=n1_;have BK732:=n2_;have HB:=n3_;clear n0_ n1_ n2_ n3_
               have hHeld : w14.cell? ⟨gb731,0,none⟩ = some (.slice A0_0 l0_0.length c0_0) ∧ w14.cell? ⟨gb731,1,none⟩ = some (.slice A0_1 l0_1.length c0_1) ∧ w14.cell? ⟨gb731,2,none⟩ = some (.slice A0_2 l0_2.length c0_2):=hS_
               refine norm_ (a':=?_) ?_ ?_;rotate_left
               ·
                simp only [putAll,Act.put,List.setIfInBounds_toArray,List.set_cons_zero,List.set_cons_succ]
                rfl
               refine three_ (i:=3) (j:=4) (k:=9) (Ni:=some 12) (Nj:=some 13) (Nk:=some 3) #[true,true,true,true,false,true,true,false,false,false,false] #[true,true,true,false,true,true,true,false,false,false,false] #[true,true,true,false,false,true,true,false,false,true,false] rfl rfl rfl rfl rfl rfl (three_of HT_.out (by kernel_rfl)) (by decide) (by decide) (by decide) (fun K hK => ?_) (fun K hK => ?_) (fun K hK => ?_)
               ·
                skip
                refine Kd.R_append_rows_step (Kd.int .i64) (w0:=w) w.heap.size (by rfl) (.tmp 9) (.tmp 11) 22 3 (.int .i64 0) 8 rfl Try.underlying22 info3 rfl (by decide) (by omega) v735 y734 l0_0 _ _ _ (fun _ => True) (fun _ => False) rfl rfl ?aO ?aR (fun _ _ h => h) (fun _ h => h.elim) ?aF ?aB ?aS ?aL ?_
                (case aR => repeat (first|exact (Kd.C_below HR0_0.out HB.out)|(with_reducible refine Kd.C_alloc ?_ _)|(with_reducible refine Kd.C_drewN ?_ _)|(with_reducible refine Kd.C_drew ?_)))
                (case aB => exact (by repeat (first|(with_reducible first|exact HB.out|apply below_alloc|apply pw_below_drewN|apply below_drew1|refine below_set ?_ GE731.out|refine below_set ?_ GE732.out)|exact HB.out)))
                (case aF => exact (fun _ _ => trivial))
                (case aO => exact (by (with_reducible repeat (first|apply Kd.R_alloc|apply Kd.R_drewN|apply Kd.R_drew));exact HO736.out))
                (case aS => exact (below_size (by repeat (first|(with_reducible first|exact HB.out|apply below_alloc|apply pw_below_drewN|apply below_drew1|refine below_set ?_ GE731.out|refine below_set ?_ GE732.out)|exact HB.out))))
                (case aL => have:=LMc4.out;omega);intro v738 w15 ho hb hg hat
                rw [← Ny737.out] at ho;have n0_:=Aside0.mk (blk_grown (g:=gb731) (o:=.cells #[.slice A0_0 l0_0.length c0_0,.slice A0_1 l0_1.length c0_1,.slice A0_2 l0_2.length c0_2] 24 (0,0)) (by (with_reducible repeat (first|refine blk_drewN ?_ _|refine blk_drew ?_|refine blk_alloc ?_ _));exact BK731.out) hg (Kd.R_ne HO736.out BK731.out (by decide)));have n1_:=Aside0.mk (blk_grown (g:=gb732) (o:=.cells #[.slice none 0 0,.slice none 0 0,.slice none 0 0] 24 (0,0)) (by (with_reducible repeat (first|refine blk_drewN ?_ _|refine blk_drew ?_|refine blk_alloc ?_ _));exact BK732.out) hg (Kd.R_ne HO736.out BK732.out (by decide)));have n2_:=Aside0.mk (hb);have n3_:=Aside0.mk (ho);clear BK731 BK732 HB HO736;have BK731:=n0_;have BK732:=n1_;have HB:=n2_;have HO739:=n3_;clear n0_ n1_ n2_ n3_ ho hb hg hat
                refine hK.out _ _ ⟨(blk_cell BK731.out 0).trans rfl,(blk_cell BK731.out 1).trans rfl,(blk_cell BK731.out 2).trans rfl⟩ (fun hHeld => ?_);clear hK K
                refine norm_ (a':=?_) ?_ ?_;rotate_left
                ·
                 show Act.put _ (some 12) _ = _
                 simp only [Act.put,List.setIfInBounds_toArray,List.set_cons_zero,List.set_cons_succ,i64_w,i32_w]
                 rfl
                exact norm_ (by first|(simp only [putAll,Act.put,List.setIfInBounds_toArray,List.set_cons_zero,List.set_cons_succ];done)|(simp only [putAll,Act.put,List.setIfInBounds_toArray,List.set_cons_zero,List.set_cons_succ];rfl)) (hJ0_3 (v735,v738) _ ⟨hHeld,(by (with_reducible repeat (first|apply Kd.R_alloc|apply Kd.R_drewN|apply Kd.R_drew));exact HO739.out),(by (with_reducible repeat (first|refine blk_drewN ?_ _|refine blk_drew ?_|refine blk_alloc ?_ _));exact BK731.out),(by (with_reducible repeat (first|refine blk_drewN ?_ _|refine blk_drew ?_|refine blk_alloc ?_ _));exact BK732.out),(by repeat (first|(with_reducible first|exact HB.out|apply below_alloc|apply pw_below_drewN|apply below_drew1|refine below_set ?_ GE731.out|refine below_set ?_ GE732.out)|exact HB.out))⟩)
               ·
                skip
                refine Kd.R_lit_step (Kd.int .i64) _ 3 ?hg (N:=13) ?hd (xs:=([] : List Int)) (inner:=[]) (ok:=fun _ => True) (okp:=fun _ => True) ?hr ?hp (fun _ hk => hk) trivial (Below.refl _ _) (Nat.le_refl _) (by simp) ?_;(case hd => rfl);(case hg => rfl);(case hr => first|(go_simp;done)|(go_simp;rfl));(case hp => exact (Reps.none _ _));intro v741 w15 ho16 hb hg_ hnew_;clear hg_ hnew_
                (first|rw [← Ny740.out] at ho16|(simp only [Int.reduceToNat] at ho16;rw [← Ny740.out] at ho16));have n0_:=Aside0.mk (Kd.R_elder' (by (with_reducible repeat (first|apply Kd.R_alloc|apply Kd.R_drewN|apply Kd.R_drew));exact HO736.out) (Kd.R_base ho16) hb);have n1_:=Aside0.mk (Kd.R_lower (Kd.R_new' ho16 (Kd.R_lt (by (with_reducible repeat (first|apply Kd.R_alloc|apply Kd.R_drewN|apply Kd.R_drew));exact HO736.out))) (below_size (by repeat (first|(with_reducible first|exact HB.out|apply below_alloc|apply pw_below_drewN|apply below_drew1|refine below_set ?_ GE731.out|refine below_set ?_ GE732.out)|exact HB.out))));have n2_:=Aside0.mk (blk_below (g:=gb731) (o:=.cells #[.slice A0_0 l0_0.length c0_0,.slice A0_1 l0_1.length c0_1,.slice A0_2 l0_2.length c0_2] 24 (0,0)) (by (with_reducible repeat (first|refine blk_drewN ?_ _|refine blk_drew ?_|refine blk_alloc ?_ _));exact BK731.out) hb);have n3_:=Aside0.mk (blk_below (g:=gb732) (o:=.cells #[.slice none 0 0,.slice none 0 0,.slice none 0 0] 24 (0,0)) (by (with_reducible repeat (first|refine blk_drewN ?_ _|refine blk_drew ?_|refine blk_alloc ?_ _));exact BK732.out) hb);have n4_:=Aside0.mk (below_step (by repeat (first|(with_reducible first|exact HB.out|apply below_alloc|apply pw_below_drewN|apply below_drew1|refine below_set ?_ GE731.out|refine below_set ?_ GE732.out)|exact HB.out)) hb);clear HO736 BK731 BK732
                clear HB;have HO736:=n0_;have HO742:=n1_;have BK731:=n2_;have BK732:=n3_;have HB:=n4_;clear n0_ n1_ n2_ n3_ n4_ hb ho16
                refine hK.out _ _ ⟨(blk_cell BK731.out 0).trans rfl,(blk_cell BK731.out 1).trans rfl,(blk_cell BK731.out 2).trans rfl⟩ (fun hHeld => ?_);clear hK K
                refine norm_ (a':=?_) ?_ ?_;rotate_left
                ·
                 show Act.put _ (some 13) _ = _
                 simp only [Act.put,List.setIfInBounds_toArray,List.set_cons_zero,List.set_cons_succ,i64_w,i32_w]
                 rfl
                exact norm_ (by first|(simp only [putAll,Act.put,List.setIfInBounds_toArray,List.set_cons_zero,List.set_cons_succ];done)|(simp only [putAll,Act.put,List.setIfInBounds_toArray,List.set_cons_zero,List.set_cons_succ];rfl)) (hJ0_4 (v735,v741) _ ⟨hHeld,(by (with_reducible repeat (first|apply Kd.R_alloc|apply Kd.R_drewN|apply Kd.R_drew));exact Kd.R_mono HO736.out (fun _ hk => hk.2)),(by (with_reducible repeat (first|apply Kd.R_alloc|apply Kd.R_drewN|apply Kd.R_drew));exact Kd.R_mono HO742.out (fun _ hk => hk.2)),(by (with_reducible repeat (first|refine blk_drewN ?_ _|refine blk_drew ?_|refine blk_alloc ?_ _));exact BK731.out),(by (with_reducible repeat (first|refine blk_drewN ?_ _|refine blk_drew ?_|refine blk_alloc ?_ _));exact BK732.out),(by repeat (first|(with_reducible first|exact HB.out|apply below_alloc|apply pw_below_drewN|apply below_drew1|refine below_set ?_ GE731.out|refine below_set ?_ GE732.out)|exact HB.out))⟩)
               ·
                skip
                refine box_step ?hg (N:=3) ?hd (cs:=#[.slice none 0 0,.slice none 0 0,.slice none 0 0]) (t:=24) ?hr ?_;(case hd => rfl);(case hg => rfl);(case hr => first|(go_simp;done)|(go_simp;rfl));intro gb746 hg w15 hbox hb;have n0_:=Aside0.mk (Kd.R_below (by (with_reducible repeat (first|apply Kd.R_alloc|apply Kd.R_drewN|apply Kd.R_drew));exact HO736.out) hb);have n1_:=Aside0.mk (blk_below (g:=gb731) (o:=.cells #[.slice A0_0 l0_0.length c0_0,.slice A0_1 l0_1.length c0_1,.slice A0_2 l0_2.length c0_2] 24 (0,0)) (by (with_reducible repeat (first|refine blk_drewN ?_ _|refine blk_drew ?_|refine blk_alloc ?_ _));exact BK731.out) hb);have n2_:=Aside0.mk (blk_below (g:=gb732) (o:=.cells #[.slice none 0 0,.slice none 0 0,.slice none 0 0] 24 (0,0)) (by (with_reducible repeat (first|refine blk_drewN ?_ _|refine blk_drew ?_|refine blk_alloc ?_ _));exact BK732.out) hb);have n3_:=Aside0.mk (below_step (by repeat (first|(with_reducible first|exact HB.out|apply below_alloc|apply pw_below_drewN|apply below_drew1|refine below_set ?_ GE731.out|refine below_set ?_ GE732.out)|exact HB.out)) hb);have n4_:=Aside0.mk (hbox);have n5_:=Aside0.mk ((by rw [hg];exact (below_size (by repeat (first|(with_reducible first|exact HB.out|apply below_alloc|apply pw_below_drewN|apply below_drew1|refine below_set ?_ GE731.out|refine below_set ?_ GE732.out)|exact HB.out))) : w.heap.size ≤ gb746))
                have n6_:=Aside0.mk ((by rw [hg];exact (below_size (by repeat (first|(with_reducible first|exact HB.out|apply below_alloc|apply pw_below_drewN|apply below_drew1|refine below_set ?_ GE731.out|refine below_set ?_ GE732.out)|exact HB.out))) : w.heap.size ≤ gb746));have n7_:=Aside0.mk ((by rw [hg];exact Nat.ne_of_lt (blk_lt (g:=gb731) (o:=.cells #[.slice A0_0 l0_0.length c0_0,.slice A0_1 l0_1.length c0_1,.slice A0_2 l0_2.length c0_2] 24 (0,0)) (by (with_reducible repeat (first|refine blk_drewN ?_ _|refine blk_drew ?_|refine blk_alloc ?_ _));exact BK731.out)) : gb731 ≠ gb746));have n8_:=Aside0.mk ((by rw [hg];exact Nat.ne_of_gt (blk_lt (g:=gb731) (o:=.cells #[.slice A0_0 l0_0.length c0_0,.slice A0_1 l0_1.length c0_1,.slice A0_2 l0_2.length c0_2] 24 (0,0)) (by (with_reducible repeat (first|refine blk_drewN ?_ _|refine blk_drew ?_|refine blk_alloc ?_ _));exact BK731.out)) : gb746 ≠ gb731));have n9_:=Aside0.mk ((by rw [hg];exact Nat.ne_of_lt (blk_lt (g:=gb732) (o:=.cells #[.slice none 0 0,.slice none 0 0,.slice none 0 0] 24 (0,0)) (by (with_reducible repeat (first|refine blk_drewN ?_ _|refine blk_drew ?_|refine blk_alloc ?_ _));exact BK732.out)) : gb732 ≠ gb746));have n10_:=Aside0.mk ((by rw [hg];exact Nat.ne_of_gt (blk_lt (g:=gb732) (o:=.cells #[.slice none 0 0,.slice none 0 0,.slice none 0 0] 24 (0,0)) (by (with_reducible repeat (first|refine blk_drewN ?_ _|refine blk_drew ?_|refine blk_alloc ?_ _));exact BK732.out)) : gb746 ≠ gb732))
                clear HO736 BK731 BK732 HB;have HO736:=n0_;have BK731:=n1_;have BK732:=n2_;have HB:=n3_;have BK746:=n4_;have GW746:=n5_;have GE746:=n6_;have NB731_746:=n7_;have NB746_731:=n8_;have NB732_746:=n9_;have NB746_732:=n10_;clear n0_ n1_ n2_ n3_ n4_ n5_ n6_ n7_ n8_ n9_ n10_ hb hbox hg
                refine hK.out _ _ ⟨(blk_cell BK731.out 0).trans rfl,(blk_cell BK731.out 1).trans rfl,(blk_cell BK731.out 2).trans rfl⟩ (fun hHeld => ?_);clear hK K
                refine norm_ (a':=?_) ?_ ?_;rotate_left
                ·
                 show Act.put _ (some 3) _ = _
                 simp only [Act.put,List.setIfInBounds_toArray,List.set_cons_zero,List.set_cons_succ,i64_w,i32_w]
                 rfl
                exact norm_ (by first|(simp only [putAll,Act.put,List.setIfInBounds_toArray,List.set_cons_zero,List.set_cons_succ];done)|(simp only [putAll,Act.put,List.setIfInBounds_toArray,List.set_cons_zero,List.set_cons_succ];rfl)) (hJ0_9 (v735,gb746) _ ⟨hHeld,(by (with_reducible repeat (first|apply Kd.R_alloc|apply Kd.R_drewN|apply Kd.R_drew));exact HO736.out),(by (with_reducible repeat (first|refine blk_drewN ?_ _|refine blk_drew ?_|refine blk_alloc ?_ _));exact BK731.out),(by (with_reducible repeat (first|refine blk_drewN ?_ _|refine blk_drew ?_|refine blk_alloc ?_ _));exact BK732.out),(by (with_reducible repeat (first|refine blk_drewN ?_ _|refine blk_drew ?_|refine blk_alloc ?_ _));exact BK746.out),GW746.out,GE746.out,NB731_746.out,NB746_731.out,NB732_746.out,NB746_732.out,(by repeat (first|(with_reducible first|exact HB.out|apply below_alloc|apply pw_below_drewN|apply below_drew1|refine below_set ?_ GE731.out|refine below_set ?_ GE732.out|refine below_set ?_ GE746.out)|exact HB.out))⟩)
             ·
              skip
              rintro ⟨v741,gb746⟩ w15 ⟨hS_,h0_,h1_,h2_,h3_,h4_,h5_,h6_,h7_,h8_,h9_,h10_⟩
              have n0_ : Aside0 (Kd.R (Kd.int .i64) 3 w15 w.heap.size (fun _ => True) v741 y740):=⟨h0_⟩
              have n1_ : Aside0 (w15.heap[gb731]? = some (.cells #[.slice A0_0 l0_0.length c0_0,.slice A0_1 l0_1.length c0_1,.slice A0_2 l0_2.length c0_2] 24 (0,0))):=⟨h1_⟩
              have n2_ : Aside0 (w15.heap[gb732]? = some (.cells #[.slice none 0 0,.slice none 0 0,.slice none 0 0] 24 (0,0))):=⟨h2_⟩
              have n3_ : Aside0 (w15.heap[gb746]? = some (.cells #[.slice none 0 0,.slice none 0 0,.slice none 0 0] 24 (0,0))):=⟨h3_⟩
              have n4_ : Aside0 (w.heap.size ≤ gb746):=⟨h4_⟩
              have n5_ : Aside0 (w.heap.size ≤ gb746):=⟨h5_⟩
              have n6_ : Aside0 (gb731 ≠ gb746):=⟨h6_⟩
              have n7_ : Aside0 (gb746 ≠ gb731):=⟨h7_⟩
              have n8_ : Aside0 (gb732 ≠ gb746):=⟨h8_⟩
              have n9_ : Aside0 (gb746 ≠ gb732):=⟨h9_⟩
              have n10_ : Aside0 (Below w.heap.size w w15):=⟨h10_⟩;clear BK731 BK732 HB h0_ h1_ h2_ h3_ h4_ h5_ h6_ h7_ h8_ h9_ h10_;have HO742:=n0_;have BK731:=n1_;have BK732:=n2_;have BK746:=n3_;have GW746:=n4_;have GE746:=n5_;have NB731_746:=n6_;have NB746_731:=n7_;have NB732_746:=n8_;have NB746_732:=n9_;have HB:=n10_;clear n0_ n1_ n2_ n3_ n4_ n5_ n6_ n7_ n8_ n9_ n10_
              have hHeld : w15.cell? ⟨gb731,0,none⟩ = some (.slice A0_0 l0_0.length c0_0) ∧ w15.cell? ⟨gb731,1,none⟩ = some (.slice A0_1 l0_1.length c0_1) ∧ w15.cell? ⟨gb731,2,none⟩ = some (.slice A0_2 l0_2.length c0_2):=hS_
              refine norm_ (a':=?_) ?_ ?_;rotate_left
              ·
               simp only [putAll,Act.put,List.setIfInBounds_toArray,List.set_cons_zero,List.set_cons_succ]
               rfl
              refine one_ (i:=0) (N:=some 9) #[true,true,true,false,true,true,true,false,false,true,false] rfl rfl (one_of HT_.out (by kernel_rfl)) (by decide) (fun K hK => ?_)
              refine Kd.R_lit_step (Kd.int .i64) _ 3 ?hg (N:=9) ?hd (xs:=([] : List Int)) (inner:=[]) (ok:=fun _ => True) (okp:=fun _ => True) ?hr ?hp (fun _ hk => hk) trivial (Below.refl _ _) (Nat.le_refl _) (by simp) ?_;(case hd => rfl);(case hg => rfl);(case hr => first|(go_simp;done)|(go_simp;rfl));(case hp => exact (Reps.none _ _));intro v735 w16 ho17 hb hg_ hnew_;clear hg_ hnew_
              (first|rw [← Ny734.out] at ho17|(simp only [Int.reduceToNat] at ho17;rw [← Ny734.out] at ho17));have n0_:=Aside0.mk (Kd.R_elder' (by (with_reducible repeat (first|apply Kd.R_alloc|apply Kd.R_drewN|apply Kd.R_drew));exact HO742.out) (Kd.R_base ho17) hb);have n1_:=Aside0.mk (Kd.R_lower (Kd.R_new' ho17 (Kd.R_lt (by (with_reducible repeat (first|apply Kd.R_alloc|apply Kd.R_drewN|apply Kd.R_drew));exact HO742.out))) (below_size (by repeat (first|(with_reducible first|exact HB.out|apply below_alloc|apply pw_below_drewN|apply below_drew1|refine below_set ?_ GE731.out|refine below_set ?_ GE732.out|refine below_set ?_ GE746.out)|exact HB.out))));have n2_:=Aside0.mk (blk_below (g:=gb731) (o:=.cells #[.slice A0_0 l0_0.length c0_0,.slice A0_1 l0_1.length c0_1,.slice A0_2 l0_2.length c0_2] 24 (0,0)) (by (with_reducible repeat (first|refine blk_drewN ?_ _|refine blk_drew ?_|refine blk_alloc ?_ _));exact BK731.out) hb);have n3_:=Aside0.mk (blk_below (g:=gb732) (o:=.cells #[.slice none 0 0,.slice none 0 0,.slice none 0 0] 24 (0,0)) (by (with_reducible repeat (first|refine blk_drewN ?_ _|refine blk_drew ?_|refine blk_alloc ?_ _));exact BK732.out) hb);have n4_:=Aside0.mk (blk_below (g:=gb746) (o:=.cells #[.slice none 0 0,.slice none 0 0,.slice none 0 0] 24 (0,0)) (by (with_reducible repeat (first|refine blk_drewN ?_ _|refine blk_drew ?_|refine blk_alloc ?_ _));exact BK746.out) hb)
              have n5_:=Aside0.mk (below_step (by repeat (first|(with_reducible first|exact HB.out|apply below_alloc|apply pw_below_drewN|apply below_drew1|refine below_set ?_ GE731.out|refine below_set ?_ GE732.out|refine below_set ?_ GE746.out)|exact HB.out)) hb);clear HO742 BK731 BK732 BK746 HB;have HO742:=n0_;have HO736:=n1_;have BK731:=n2_;have BK732:=n3_;have BK746:=n4_;have HB:=n5_;clear n0_ n1_ n2_ n3_ n4_ n5_ hb ho17
              refine hK.out _ _ ⟨(blk_cell BK731.out 0).trans rfl,(blk_cell BK731.out 1).trans rfl,(blk_cell BK731.out 2).trans rfl⟩ (fun hHeld => ?_);clear hK K
              refine norm_ (a':=?_) ?_ ?_;rotate_left
              ·
               show Act.put _ (some 9) _ = _
               simp only [Act.put,List.setIfInBounds_toArray,List.set_cons_zero,List.set_cons_succ,i64_w,i32_w]
               rfl
              exact norm_ (by first|(simp only [putAll,Act.put,List.setIfInBounds_toArray,List.set_cons_zero,List.set_cons_succ];done)|(simp only [putAll,Act.put,List.setIfInBounds_toArray,List.set_cons_zero,List.set_cons_succ];rfl)) (hJ0_4_9 (v735,v741,gb746) _ ⟨hHeld,(by (with_reducible repeat (first|apply Kd.R_alloc|apply Kd.R_drewN|apply Kd.R_drew));exact Kd.R_mono HO736.out (fun _ hk => hk.2)),(by (with_reducible repeat (first|apply Kd.R_alloc|apply Kd.R_drewN|apply Kd.R_drew));exact Kd.R_mono HO742.out (fun _ hk => hk.2)),(by (with_reducible repeat (first|refine blk_drewN ?_ _|refine blk_drew ?_|refine blk_alloc ?_ _));exact BK731.out),(by (with_reducible repeat (first|refine blk_drewN ?_ _|refine blk_drew ?_|refine blk_alloc ?_ _));exact BK732.out),(by (with_reducible repeat (first|refine blk_drewN ?_ _|refine blk_drew ?_|refine blk_alloc ?_ _));exact BK746.out),GW746.out,GE746.out,NB731_746.out,NB746_731.out,NB732_746.out,NB746_732.out,(by repeat (first|(with_reducible first|exact HB.out|apply below_alloc|apply pw_below_drewN|apply below_drew1|refine below_set ?_ GE731.out|refine below_set ?_ GE732.out|refine below_set ?_ GE746.out)|exact HB.out))⟩)
            ·
             skip
             rintro ⟨v735,gb746⟩ w15 ⟨hS_,h0_,h1_,h2_,h3_,h4_,h5_,h6_,h7_,h8_,h9_,h10_⟩
             have n0_ : Aside0 (Kd.R (Kd.int .i64) 3 w15 w.heap.size (fun _ => True) v735 y734):=⟨h0_⟩
             have n1_ : Aside0 (w15.heap[gb731]? = some (.cells #[.slice A0_0 l0_0.length c0_0,.slice A0_1 l0_1.length c0_1,.slice A0_2 l0_2.length c0_2] 24 (0,0))):=⟨h1_⟩
             have n2_ : Aside0 (w15.heap[gb732]? = some (.cells #[.slice none 0 0,.slice none 0 0,.slice none 0 0] 24 (0,0))):=⟨h2_⟩
             have n3_ : Aside0 (w15.heap[gb746]? = some (.cells #[.slice none 0 0,.slice none 0 0,.slice none 0 0] 24 (0,0))):=⟨h3_⟩
             have n4_ : Aside0 (w.heap.size ≤ gb746):=⟨h4_⟩
             have n5_ : Aside0 (w.heap.size ≤ gb746):=⟨h5_⟩
             have n6_ : Aside0 (gb731 ≠ gb746):=⟨h6_⟩
             have n7_ : Aside0 (gb746 ≠ gb731):=⟨h7_⟩
             have n8_ : Aside0 (gb732 ≠ gb746):=⟨h8_⟩
             have n9_ : Aside0 (gb746 ≠ gb732):=⟨h9_⟩
             have n10_ : Aside0 (Below w.heap.size w w15):=⟨h10_⟩;clear BK731 BK732 HB h0_ h1_ h2_ h3_ h4_ h5_ h6_ h7_ h8_ h9_ h10_;have HO736:=n0_;have BK731:=n1_;have BK732:=n2_;have BK746:=n3_;have GW746:=n4_;have GE746:=n5_;have NB731_746:=n6_;have NB746_731:=n7_;have NB732_746:=n8_;have NB746_732:=n9_;have HB:=n10_;clear n0_ n1_ n2_ n3_ n4_ n5_ n6_ n7_ n8_ n9_ n10_
             have hHeld : w15.cell? ⟨gb731,0,none⟩ = some (.slice A0_0 l0_0.length c0_0) ∧ w15.cell? ⟨gb731,1,none⟩ = some (.slice A0_1 l0_1.length c0_1) ∧ w15.cell? ⟨gb731,2,none⟩ = some (.slice A0_2 l0_2.length c0_2):=hS_
             refine norm_ (a':=?_) ?_ ?_;rotate_left
             ·
              simp only [putAll,Act.put,List.setIfInBounds_toArray,List.set_cons_zero,List.set_cons_succ]
              rfl
             refine two_ (i:=3) (j:=4) (Ni:=some 12) (Nj:=some 13) #[true,true,true,true,false,true,true,false,false,true,false] #[true,true,true,false,true,true,true,false,false,true,false] rfl rfl rfl rfl (two_of HT_.out (by kernel_rfl)) (by decide) (by decide) (fun K hK => ?_) (fun K hK => ?_)
             ·
              skip
              refine Kd.R_append_rows_step (Kd.int .i64) (w0:=w) w.heap.size (by rfl) (.tmp 9) (.tmp 11) 22 3 (.int .i64 0) 8 rfl Try.underlying22 info3 rfl (by decide) (by omega) v735 y734 l0_0 _ _ _ (fun _ => True) (fun _ => False) rfl rfl ?aO ?aR (fun _ _ h => h) (fun _ h => h.elim) ?aF ?aB ?aS ?aL ?_
              (case aR => repeat (first|exact (Kd.C_below HR0_0.out HB.out)|(with_reducible refine Kd.C_alloc ?_ _)|(with_reducible refine Kd.C_drewN ?_ _)|(with_reducible refine Kd.C_drew ?_)))
              (case aB => exact (by repeat (first|(with_reducible first|exact HB.out|apply below_alloc|apply pw_below_drewN|apply below_drew1|refine below_set ?_ GE731.out|refine below_set ?_ GE732.out|refine below_set ?_ GE746.out)|exact HB.out)))
              (case aF => exact (fun _ _ => trivial))
              (case aO => exact (by (with_reducible repeat (first|apply Kd.R_alloc|apply Kd.R_drewN|apply Kd.R_drew));exact HO736.out))
              (case aS => exact (below_size (by repeat (first|(with_reducible first|exact HB.out|apply below_alloc|apply pw_below_drewN|apply below_drew1|refine below_set ?_ GE731.out|refine below_set ?_ GE732.out|refine below_set ?_ GE746.out)|exact HB.out))))
              (case aL => have:=LMc4.out;omega);intro v738 w16 ho hb hg hat
              rw [← Ny737.out] at ho;have n0_:=Aside0.mk (blk_grown (g:=gb731) (o:=.cells #[.slice A0_0 l0_0.length c0_0,.slice A0_1 l0_1.length c0_1,.slice A0_2 l0_2.length c0_2] 24 (0,0)) (by (with_reducible repeat (first|refine blk_drewN ?_ _|refine blk_drew ?_|refine blk_alloc ?_ _));exact BK731.out) hg (Kd.R_ne HO736.out BK731.out (by decide)));have n1_:=Aside0.mk (blk_grown (g:=gb732) (o:=.cells #[.slice none 0 0,.slice none 0 0,.slice none 0 0] 24 (0,0)) (by (with_reducible repeat (first|refine blk_drewN ?_ _|refine blk_drew ?_|refine blk_alloc ?_ _));exact BK732.out) hg (Kd.R_ne HO736.out BK732.out (by decide)));have n2_:=Aside0.mk (blk_grown (g:=gb746) (o:=.cells #[.slice none 0 0,.slice none 0 0,.slice none 0 0] 24 (0,0)) (by (with_reducible repeat (first|refine blk_drewN ?_ _|refine blk_drew ?_|refine blk_alloc ?_ _));exact BK746.out) hg (Kd.R_ne HO736.out BK746.out (by decide)));have n3_:=Aside0.mk (hb);have n4_:=Aside0.mk (ho);clear BK731 BK732 BK746 HB HO736;have BK731:=n0_;have BK732:=n1_;have BK746:=n2_;have HB:=n3_;have HO739:=n4_;clear n0_ n1_ n2_ n3_ n4_ ho hb hg hat
              refine hK.out _ _ ⟨(blk_cell BK731.out 0).trans rfl,(blk_cell BK731.out 1).trans rfl,(blk_cell BK731.out 2).trans rfl⟩ (fun hHeld => ?_);clear hK K
              refine norm_ (a':=?_) ?_ ?_;rotate_left
              ·
               show Act.put _ (some 12) _ = _
               simp only [Act.put,List.setIfInBounds_toArray,List.set_cons_zero,List.set_cons_succ,i64_w,i32_w]
               rfl
              exact norm_ (by first|(simp only [putAll,Act.put,List.setIfInBounds_toArray,List.set_cons_zero,List.set_cons_succ];done)|(simp only [putAll,Act.put,List.setIfInBounds_toArray,List.set_cons_zero,List.set_cons_succ];rfl)) (hJ0_3_9 (v735,v738,gb746) _ ⟨hHeld,(by (with_reducible repeat (first|apply Kd.R_alloc|apply Kd.R_drewN|apply Kd.R_drew));exact HO739.out),(by (with_reducible repeat (first|refine blk_drewN ?_ _|refine blk_drew ?_|refine blk_alloc ?_ _));exact BK731.out),(by (with_reducible repeat (first|refine blk_drewN ?_ _|refine blk_drew ?_|refine blk_alloc ?_ _));exact BK732.out),(by (with_reducible repeat (first|refine blk_drewN ?_ _|refine blk_drew ?_|refine blk_alloc ?_ _));exact BK746.out),GW746.out,GE746.out,NB731_746.out,NB746_731.out,NB732_746.out,NB746_732.out,(by repeat (first|(with_reducible first|exact HB.out|apply below_alloc|apply pw_below_drewN|apply below_drew1|refine below_set ?_ GE731.out|refine below_set ?_ GE732.out|refine below_set ?_ GE746.out)|exact HB.out))⟩)
             ·
              skip
              refine Kd.R_lit_step (Kd.int .i64) _ 3 ?hg (N:=13) ?hd (xs:=([] : List Int)) (inner:=[]) (ok:=fun _ => True) (okp:=fun _ => True) ?hr ?hp (fun _ hk => hk) trivial (Below.refl _ _) (Nat.le_refl _) (by simp) ?_;(case hd => rfl);(case hg => rfl);(case hr => first|(go_simp;done)|(go_simp;rfl));(case hp => exact (Reps.none _ _));intro v741 w16 ho17 hb hg_ hnew_;clear hg_ hnew_
              (first|rw [← Ny740.out] at ho17|(simp only [Int.reduceToNat] at ho17;rw [← Ny740.out] at ho17));have n0_:=Aside0.mk (Kd.R_elder' (by (with_reducible repeat (first|apply Kd.R_alloc|apply Kd.R_drewN|apply Kd.R_drew));exact HO736.out) (Kd.R_base ho17) hb);have n1_:=Aside0.mk (Kd.R_lower (Kd.R_new' ho17 (Kd.R_lt (by (with_reducible repeat (first|apply Kd.R_alloc|apply Kd.R_drewN|apply Kd.R_drew));exact HO736.out))) (below_size (by repeat (first|(with_reducible first|exact HB.out|apply below_alloc|apply pw_below_drewN|apply below_drew1|refine below_set ?_ GE731.out|refine below_set ?_ GE732.out|refine below_set ?_ GE746.out)|exact HB.out))));have n2_:=Aside0.mk (blk_below (g:=gb731) (o:=.cells #[.slice A0_0 l0_0.length c0_0,.slice A0_1 l0_1.length c0_1,.slice A0_2 l0_2.length c0_2] 24 (0,0)) (by (with_reducible repeat (first|refine blk_drewN ?_ _|refine blk_drew ?_|refine blk_alloc ?_ _));exact BK731.out) hb);have n3_:=Aside0.mk (blk_below (g:=gb732) (o:=.cells #[.slice none 0 0,.slice none 0 0,.slice none 0 0] 24 (0,0)) (by (with_reducible repeat (first|refine blk_drewN ?_ _|refine blk_drew ?_|refine blk_alloc ?_ _));exact BK732.out) hb);have n4_:=Aside0.mk (blk_below (g:=gb746) (o:=.cells #[.slice none 0 0,.slice none 0 0,.slice none 0 0] 24 (0,0)) (by (with_reducible repeat (first|refine blk_drewN ?_ _|refine blk_drew ?_|refine blk_alloc ?_ _));exact BK746.out) hb)
              have n5_:=Aside0.mk (below_step (by repeat (first|(with_reducible first|exact HB.out|apply below_alloc|apply pw_below_drewN|apply below_drew1|refine below_set ?_ GE731.out|refine below_set ?_ GE732.out|refine below_set ?_ GE746.out)|exact HB.out)) hb);clear HO736 BK731 BK732 BK746 HB;have HO736:=n0_;have HO742:=n1_;have BK731:=n2_;have BK732:=n3_;have BK746:=n4_;have HB:=n5_;clear n0_ n1_ n2_ n3_ n4_ n5_ hb ho17
              refine hK.out _ _ ⟨(blk_cell BK731.out 0).trans rfl,(blk_cell BK731.out 1).trans rfl,(blk_cell BK731.out 2).trans rfl⟩ (fun hHeld => ?_);clear hK K
              refine norm_ (a':=?_) ?_ ?_;rotate_left
              ·
               show Act.put _ (some 13) _ = _
               simp only [Act.put,List.setIfInBounds_toArray,List.set_cons_zero,List.set_cons_succ,i64_w,i32_w]
               rfl
              exact norm_ (by first|(simp only [putAll,Act.put,List.setIfInBounds_toArray,List.set_cons_zero,List.set_cons_succ];done)|(simp only [putAll,Act.put,List.setIfInBounds_toArray,List.set_cons_zero,List.set_cons_succ];rfl)) (hJ0_4_9 (v735,v741,gb746) _ ⟨hHeld,(by (with_reducible repeat (first|apply Kd.R_alloc|apply Kd.R_drewN|apply Kd.R_drew));exact Kd.R_mono HO736.out (fun _ hk => hk.2)),(by (with_reducible repeat (first|apply Kd.R_alloc|apply Kd.R_drewN|apply Kd.R_drew));exact Kd.R_mono HO742.out (fun _ hk => hk.2)),(by (with_reducible repeat (first|refine blk_drewN ?_ _|refine blk_drew ?_|refine blk_alloc ?_ _));exact BK731.out),(by (with_reducible repeat (first|refine blk_drewN ?_ _|refine blk_drew ?_|refine blk_alloc ?_ _));exact BK732.out),(by (with_reducible repeat (first|refine blk_drewN ?_ _|refine blk_drew ?_|refine blk_alloc ?_ _));exact BK746.out),GW746.out,GE746.out,NB731_746.out,NB746_731.out,NB732_746.out,NB746_732.out,(by repeat (first|(with_reducible first|exact HB.out|apply below_alloc|apply pw_below_drewN|apply below_drew1|refine below_set ?_ GE731.out|refine below_set ?_ GE732.out|refine below_set ?_ GE746.out)|exact HB.out))⟩)
           ·
            skip
            rintro ⟨v735,v741⟩ w16 ⟨hS_,h0_,h1_,h2_,h3_,h4_⟩
            have n0_ : Aside0 (Kd.R (Kd.int .i64) 3 w16 w.heap.size (fun k_ => some k_ ≠ (v741 : Value).ownBlock) v735 y734):=⟨h0_⟩
            have n1_ : Aside0 (Kd.R (Kd.int .i64) 3 w16 w.heap.size (fun k_ => some k_ ≠ (v735 : Value).ownBlock) v741 y740):=⟨h1_⟩
            have n2_ : Aside0 (w16.heap[gb731]? = some (.cells #[.slice A0_0 l0_0.length c0_0,.slice A0_1 l0_1.length c0_1,.slice A0_2 l0_2.length c0_2] 24 (0,0))):=⟨h2_⟩
            have n3_ : Aside0 (w16.heap[gb732]? = some (.cells #[.slice none 0 0,.slice none 0 0,.slice none 0 0] 24 (0,0))):=⟨h3_⟩
            have n4_ : Aside0 (Below w.heap.size w w16):=⟨h4_⟩;clear BK731 BK732 HB h0_ h1_ h2_ h3_ h4_;have HO736:=n0_;have HO742:=n1_;have BK731:=n2_;have BK732:=n3_;have HB:=n4_;clear n0_ n1_ n2_ n3_ n4_
            have hHeld : w16.cell? ⟨gb731,0,none⟩ = some (.slice A0_0 l0_0.length c0_0) ∧ w16.cell? ⟨gb731,1,none⟩ = some (.slice A0_1 l0_1.length c0_1) ∧ w16.cell? ⟨gb731,2,none⟩ = some (.slice A0_2 l0_2.length c0_2):=hS_
            refine norm_ (a':=?_) ?_ ?_;rotate_left
            ·
             simp only [putAll,Act.put,List.setIfInBounds_toArray,List.set_cons_zero,List.set_cons_succ]
             rfl
            refine two_ (i:=3) (j:=9) (Ni:=some 12) (Nj:=some 3) #[true,true,true,true,true,true,true,false,false,false,false] #[true,true,true,false,true,true,true,false,false,true,false] rfl rfl rfl rfl (two_of HT_.out (by kernel_rfl)) (by decide) (by decide) (fun K hK => ?_) (fun K hK => ?_)
            ·
             skip
             refine Kd.R_append_rows_step (Kd.int .i64) (w0:=w) w.heap.size (by rfl) (.tmp 9) (.tmp 11) 22 3 (.int .i64 0) 8 rfl Try.underlying22 info3 rfl (by decide) (by omega) v735 y734 l0_0 _ _ _ (fun k_ => some k_ ≠ (v741 : Value).ownBlock) (fun _ => False) rfl rfl ?aO ?aR (fun _ _ h => h) (fun _ h => h.elim) ?aF ?aB ?aS ?aL ?_
             (case aR => repeat (first|exact (Kd.C_below HR0_0.out HB.out)|(with_reducible refine Kd.C_alloc ?_ _)|(with_reducible refine Kd.C_drewN ?_ _)|(with_reducible refine Kd.C_drew ?_)))
             (case aB => exact (by repeat (first|(with_reducible first|exact HB.out|apply below_alloc|apply pw_below_drewN|apply below_drew1|refine below_set ?_ GE731.out|refine below_set ?_ GE732.out)|exact HB.out)))
             (case aF => exact (fun k_ hk => Kd.fresh' (Kd.R_lt (by (with_reducible repeat (first|apply Kd.R_alloc|apply Kd.R_drewN|apply Kd.R_drew));exact HO742.out)) k_ hk))
             (case aO => exact (by (with_reducible repeat (first|apply Kd.R_alloc|apply Kd.R_drewN|apply Kd.R_drew));exact HO736.out))
             (case aS => exact (below_size (by repeat (first|(with_reducible first|exact HB.out|apply below_alloc|apply pw_below_drewN|apply below_drew1|refine below_set ?_ GE731.out|refine below_set ?_ GE732.out)|exact HB.out))))
             (case aL => have:=LMc4.out;omega);intro v738 w17 ho hb hg hat
             rw [← Ny737.out] at ho;have n0_:=Aside0.mk (blk_grown (g:=gb731) (o:=.cells #[.slice A0_0 l0_0.length c0_0,.slice A0_1 l0_1.length c0_1,.slice A0_2 l0_2.length c0_2] 24 (0,0)) (by (with_reducible repeat (first|refine blk_drewN ?_ _|refine blk_drew ?_|refine blk_alloc ?_ _));exact BK731.out) hg (Kd.R_ne HO736.out BK731.out (by decide)));have n1_:=Aside0.mk (blk_grown (g:=gb732) (o:=.cells #[.slice none 0 0,.slice none 0 0,.slice none 0 0] 24 (0,0)) (by (with_reducible repeat (first|refine blk_drewN ?_ _|refine blk_drew ?_|refine blk_alloc ?_ _));exact BK732.out) hg (Kd.R_ne HO736.out BK732.out (by decide)));have n2_:=Aside0.mk (Kd.R_after (ok:=(fun _ => True)) (by (with_reducible repeat (first|apply Kd.R_alloc|apply Kd.R_drewN|apply Kd.R_drew));exact Kd.R_mono HO742.out (fun _ hk => ⟨trivial,hk⟩)) hg hat);have n3_:=Aside0.mk (hb);have n4_:=Aside0.mk (ho);clear BK731 BK732 HO742 HB HO736;have BK731:=n0_;have BK732:=n1_;have HO742:=n2_;have HB:=n3_;have HO739:=n4_;clear n0_ n1_ n2_ n3_ n4_ ho hb hg hat
             refine hK.out _ _ ⟨(blk_cell BK731.out 0).trans rfl,(blk_cell BK731.out 1).trans rfl,(blk_cell BK731.out 2).trans rfl⟩ (fun hHeld => ?_);clear hK K
             refine norm_ (a':=?_) ?_ ?_;rotate_left
             ·
              show Act.put _ (some 12) _ = _
              simp only [Act.put,List.setIfInBounds_toArray,List.set_cons_zero,List.set_cons_succ,i64_w,i32_w]
              rfl
             exact norm_ (by first|(simp only [putAll,Act.put,List.setIfInBounds_toArray,List.set_cons_zero,List.set_cons_succ];done)|(simp only [putAll,Act.put,List.setIfInBounds_toArray,List.set_cons_zero,List.set_cons_succ];rfl)) (hJ0_3_4 (v735,v738,v741) _ ⟨hHeld,(by (with_reducible repeat (first|apply Kd.R_alloc|apply Kd.R_drewN|apply Kd.R_drew));exact HO739.out),(by (with_reducible repeat (first|apply Kd.R_alloc|apply Kd.R_drewN|apply Kd.R_drew));exact Kd.R_mono HO742.out (fun _ hk => hk.2)),(by (with_reducible repeat (first|refine blk_drewN ?_ _|refine blk_drew ?_|refine blk_alloc ?_ _));exact BK731.out),(by (with_reducible repeat (first|refine blk_drewN ?_ _|refine blk_drew ?_|refine blk_alloc ?_ _));exact BK732.out),(by repeat (first|(with_reducible first|exact HB.out|apply below_alloc|apply pw_below_drewN|apply below_drew1|refine below_set ?_ GE731.out|refine below_set ?_ GE732.out)|exact HB.out))⟩)
            ·
             skip
             refine box_step ?hg (N:=3) ?hd (cs:=#[.slice none 0 0,.slice none 0 0,.slice none 0 0]) (t:=24) ?hr ?_;(case hd => rfl);(case hg => rfl);(case hr => first|(go_simp;done)|(go_simp;rfl));intro gb746 hg w17 hbox hb;have n0_:=Aside0.mk (Kd.R_below (by (with_reducible repeat (first|apply Kd.R_alloc|apply Kd.R_drewN|apply Kd.R_drew));exact HO736.out) hb);have n1_:=Aside0.mk (Kd.R_below (by (with_reducible repeat (first|apply Kd.R_alloc|apply Kd.R_drewN|apply Kd.R_drew));exact HO742.out) hb);have n2_:=Aside0.mk (blk_below (g:=gb731) (o:=.cells #[.slice A0_0 l0_0.length c0_0,.slice A0_1 l0_1.length c0_1,.slice A0_2 l0_2.length c0_2] 24 (0,0)) (by (with_reducible repeat (first|refine blk_drewN ?_ _|refine blk_drew ?_|refine blk_alloc ?_ _));exact BK731.out) hb);have n3_:=Aside0.mk (blk_below (g:=gb732) (o:=.cells #[.slice none 0 0,.slice none 0 0,.slice none 0 0] 24 (0,0)) (by (with_reducible repeat (first|refine blk_drewN ?_ _|refine blk_drew ?_|refine blk_alloc ?_ _));exact BK732.out) hb);have n4_:=Aside0.mk (below_step (by repeat (first|(with_reducible first|exact HB.out|apply below_alloc|apply pw_below_drewN|apply below_drew1|refine below_set ?_ GE731.out|refine below_set ?_ GE732.out)|exact HB.out)) hb);have n5_:=Aside0.mk (hbox);have n6_:=Aside0.mk ((by rw [hg];exact (below_size (by repeat (first|(with_reducible first|exact HB.out|apply below_alloc|apply pw_below_drewN|apply below_drew1|refine below_set ?_ GE731.out|refine below_set ?_ GE732.out)|exact HB.out))) : w.heap.size ≤ gb746))
             have n7_:=Aside0.mk ((by rw [hg];exact (below_size (by repeat (first|(with_reducible first|exact HB.out|apply below_alloc|apply pw_below_drewN|apply below_drew1|refine below_set ?_ GE731.out|refine below_set ?_ GE732.out)|exact HB.out))) : w.heap.size ≤ gb746));have n8_:=Aside0.mk ((by rw [hg];exact Nat.ne_of_lt (blk_lt (g:=gb731) (o:=.cells #[.slice A0_0 l0_0.length c0_0,.slice A0_1 l0_1.length c0_1,.slice A0_2 l0_2.length c0_2] 24 (0,0)) (by (with_reducible repeat (first|refine blk_drewN ?_ _|refine blk_drew ?_|refine blk_alloc ?_ _));exact BK731.out)) : gb731 ≠ gb746));have n9_:=Aside0.mk ((by rw [hg];exact Nat.ne_of_gt (blk_lt (g:=gb731) (o:=.cells #[.slice A0_0 l0_0.length c0_0,.slice A0_1 l0_1.length c0_1,.slice A0_2 l0_2.length c0_2] 24 (0,0)) (by (with_reducible repeat (first|refine blk_drewN ?_ _|refine blk_drew ?_|refine blk_alloc ?_ _));exact BK731.out)) : gb746 ≠ gb731));have n10_:=Aside0.mk ((by rw [hg];exact Nat.ne_of_lt (blk_lt (g:=gb732) (o:=.cells #[.slice none 0 0,.slice none 0 0,.slice none 0 0] 24 (0,0)) (by (with_reducible repeat (first|refine blk_drewN ?_ _|refine blk_drew ?_|refine blk_alloc ?_ _));exact BK732.out)) : gb732 ≠ gb746));have n11_:=Aside0.mk ((by rw [hg];exact Nat.ne_of_gt (blk_lt (g:=gb732) (o:=.cells #[.slice none 0 0,.slice none 0 0,.slice none 0 0] 24 (0,0)) (by (with_reducible repeat (first|refine blk_drewN ?_ _|refine blk_drew ?_|refine blk_alloc ?_ _));exact BK732.out)) : gb746 ≠ gb732))
             clear HO736 HO742 BK731 BK732 HB;have HO736:=n0_;have HO742:=n1_;have BK731:=n2_;have BK732:=n3_;have HB:=n4_;have BK746:=n5_;have GW746:=n6_;have GE746:=n7_;have NB731_746:=n8_;have NB746_731:=n9_;have NB732_746:=n10_;have NB746_732:=n11_;clear n0_ n1_ n2_ n3_ n4_ n5_ n6_ n7_ n8_ n9_ n10_ n11_ hb hbox hg
             refine hK.out _ _ ⟨(blk_cell BK731.out 0).trans rfl,(blk_cell BK731.out 1).trans rfl,(blk_cell BK731.out 2).trans rfl⟩ (fun hHeld => ?_);clear hK K
             refine norm_ (a':=?_) ?_ ?_;rotate_left
             ·
              show Act.put _ (some 3) _ = _
              simp only [Act.put,List.setIfInBounds_toArray,List.set_cons_zero,List.set_cons_succ,i64_w,i32_w]
              rfl
             exact norm_ (by first|(simp only [putAll,Act.put,List.setIfInBounds_toArray,List.set_cons_zero,List.set_cons_succ];done)|(simp only [putAll,Act.put,List.setIfInBounds_toArray,List.set_cons_zero,List.set_cons_succ];rfl)) (hJ0_4_9 (v735,v741,gb746) _ ⟨hHeld,(by (with_reducible repeat (first|apply Kd.R_alloc|apply Kd.R_drewN|apply Kd.R_drew));exact HO736.out),(by (with_reducible repeat (first|apply Kd.R_alloc|apply Kd.R_drewN|apply Kd.R_drew));exact HO742.out),(by (with_reducible repeat (first|refine blk_drewN ?_ _|refine blk_drew ?_|refine blk_alloc ?_ _));exact BK731.out),(by (with_reducible repeat (first|refine blk_drewN ?_ _|refine blk_drew ?_|refine blk_alloc ?_ _));exact BK732.out),(by (with_reducible repeat (first|refine blk_drewN ?_ _|refine blk_drew ?_|refine blk_alloc ?_ _));exact BK746.out),GW746.out,GE746.out,NB731_746.out,NB746_731.out,NB732_746.out,NB746_732.out,(by repeat (first|(with_reducible first|exact HB.out|apply below_alloc|apply pw_below_drewN|apply below_drew1|refine below_set ?_ GE731.out|refine below_set ?_ GE732.out|refine below_set ?_ GE746.out)|exact HB.out))⟩)
          ·
           skip
           rintro ⟨v735,v738⟩ w15 ⟨hS_,h0_,h1_,h2_,h3_⟩
           have n0_ : Aside0 (Kd.R (Kd.int .i64) 3 w15 w.heap.size (fun _ => True) v738 y737):=⟨h0_⟩
           have n1_ : Aside0 (w15.heap[gb731]? = some (.cells #[.slice A0_0 l0_0.length c0_0,.slice A0_1 l0_1.length c0_1,.slice A0_2 l0_2.length c0_2] 24 (0,0))):=⟨h1_⟩
           have n2_ : Aside0 (w15.heap[gb732]? = some (.cells #[.slice none 0 0,.slice none 0 0,.slice none 0 0] 24 (0,0))):=⟨h2_⟩
           have n3_ : Aside0 (Below w.heap.size w w15):=⟨h3_⟩;clear BK731 BK732 HB h0_ h1_ h2_ h3_;have HO739:=n0_;have BK731:=n1_;have BK732:=n2_;have HB:=n3_;clear n0_ n1_ n2_ n3_
           have hHeld : w15.cell? ⟨gb731,0,none⟩ = some (.slice A0_0 l0_0.length c0_0) ∧ w15.cell? ⟨gb731,1,none⟩ = some (.slice A0_1 l0_1.length c0_1) ∧ w15.cell? ⟨gb731,2,none⟩ = some (.slice A0_2 l0_2.length c0_2):=hS_
           refine norm_ (a':=?_) ?_ ?_;rotate_left
           ·
            simp only [putAll,Act.put,List.setIfInBounds_toArray,List.set_cons_zero,List.set_cons_succ]
            rfl
           refine two_ (i:=4) (j:=9) (Ni:=some 13) (Nj:=some 3) #[true,true,true,true,true,true,true,false,false,false,false] #[true,true,true,true,false,true,true,false,false,true,false] rfl rfl rfl rfl (two_of HT_.out (by kernel_rfl)) (by decide) (by decide) (fun K hK => ?_) (fun K hK => ?_)
           ·
            skip
            refine Kd.R_lit_step (Kd.int .i64) _ 3 ?hg (N:=13) ?hd (xs:=([] : List Int)) (inner:=[]) (ok:=fun _ => True) (okp:=fun _ => True) ?hr ?hp (fun _ hk => hk) trivial (Below.refl _ _) (Nat.le_refl _) (by simp) ?_;(case hd => rfl);(case hg => rfl);(case hr => first|(go_simp;done)|(go_simp;rfl));(case hp => exact (Reps.none _ _));intro v741 w16 ho17 hb hg_ hnew_;clear hg_ hnew_
            (first|rw [← Ny740.out] at ho17|(simp only [Int.reduceToNat] at ho17;rw [← Ny740.out] at ho17));have n0_:=Aside0.mk (Kd.R_elder' (by (with_reducible repeat (first|apply Kd.R_alloc|apply Kd.R_drewN|apply Kd.R_drew));exact HO739.out) (Kd.R_base ho17) hb);have n1_:=Aside0.mk (Kd.R_lower (Kd.R_new' ho17 (Kd.R_lt (by (with_reducible repeat (first|apply Kd.R_alloc|apply Kd.R_drewN|apply Kd.R_drew));exact HO739.out))) (below_size (by repeat (first|(with_reducible first|exact HB.out|apply below_alloc|apply pw_below_drewN|apply below_drew1|refine below_set ?_ GE731.out|refine below_set ?_ GE732.out)|exact HB.out))));have n2_:=Aside0.mk (blk_below (g:=gb731) (o:=.cells #[.slice A0_0 l0_0.length c0_0,.slice A0_1 l0_1.length c0_1,.slice A0_2 l0_2.length c0_2] 24 (0,0)) (by (with_reducible repeat (first|refine blk_drewN ?_ _|refine blk_drew ?_|refine blk_alloc ?_ _));exact BK731.out) hb);have n3_:=Aside0.mk (blk_below (g:=gb732) (o:=.cells #[.slice none 0 0,.slice none 0 0,.slice none 0 0] 24 (0,0)) (by (with_reducible repeat (first|refine blk_drewN ?_ _|refine blk_drew ?_|refine blk_alloc ?_ _));exact BK732.out) hb);have n4_:=Aside0.mk (below_step (by repeat (first|(with_reducible first|exact HB.out|apply below_alloc|apply pw_below_drewN|apply below_drew1|refine below_set ?_ GE731.out|refine below_set ?_ GE732.out)|exact HB.out)) hb);clear HO739 BK731 BK732
            clear HB;have HO739:=n0_;have HO742:=n1_;have BK731:=n2_;have BK732:=n3_;have HB:=n4_;clear n0_ n1_ n2_ n3_ n4_ hb ho17
            refine hK.out _ _ ⟨(blk_cell BK731.out 0).trans rfl,(blk_cell BK731.out 1).trans rfl,(blk_cell BK731.out 2).trans rfl⟩ (fun hHeld => ?_);clear hK K
            refine norm_ (a':=?_) ?_ ?_;rotate_left
            ·
             show Act.put _ (some 13) _ = _
             simp only [Act.put,List.setIfInBounds_toArray,List.set_cons_zero,List.set_cons_succ,i64_w,i32_w]
             rfl
            exact norm_ (by first|(simp only [putAll,Act.put,List.setIfInBounds_toArray,List.set_cons_zero,List.set_cons_succ];done)|(simp only [putAll,Act.put,List.setIfInBounds_toArray,List.set_cons_zero,List.set_cons_succ];rfl)) (hJ0_3_4 (v735,v738,v741) _ ⟨hHeld,(by (with_reducible repeat (first|apply Kd.R_alloc|apply Kd.R_drewN|apply Kd.R_drew));exact Kd.R_mono HO739.out (fun _ hk => hk.2)),(by (with_reducible repeat (first|apply Kd.R_alloc|apply Kd.R_drewN|apply Kd.R_drew));exact Kd.R_mono HO742.out (fun _ hk => hk.2)),(by (with_reducible repeat (first|refine blk_drewN ?_ _|refine blk_drew ?_|refine blk_alloc ?_ _));exact BK731.out),(by (with_reducible repeat (first|refine blk_drewN ?_ _|refine blk_drew ?_|refine blk_alloc ?_ _));exact BK732.out),(by repeat (first|(with_reducible first|exact HB.out|apply below_alloc|apply pw_below_drewN|apply below_drew1|refine below_set ?_ GE731.out|refine below_set ?_ GE732.out)|exact HB.out))⟩)
           ·
            skip
            refine box_step ?hg (N:=3) ?hd (cs:=#[.slice none 0 0,.slice none 0 0,.slice none 0 0]) (t:=24) ?hr ?_;(case hd => rfl);(case hg => rfl);(case hr => first|(go_simp;done)|(go_simp;rfl));intro gb746 hg w16 hbox hb;have n0_:=Aside0.mk (Kd.R_below (by (with_reducible repeat (first|apply Kd.R_alloc|apply Kd.R_drewN|apply Kd.R_drew));exact HO739.out) hb);have n1_:=Aside0.mk (blk_below (g:=gb731) (o:=.cells #[.slice A0_0 l0_0.length c0_0,.slice A0_1 l0_1.length c0_1,.slice A0_2 l0_2.length c0_2] 24 (0,0)) (by (with_reducible repeat (first|refine blk_drewN ?_ _|refine blk_drew ?_|refine blk_alloc ?_ _));exact BK731.out) hb);have n2_:=Aside0.mk (blk_below (g:=gb732) (o:=.cells #[.slice none 0 0,.slice none 0 0,.slice none 0 0] 24 (0,0)) (by (with_reducible repeat (first|refine blk_drewN ?_ _|refine blk_drew ?_|refine blk_alloc ?_ _));exact BK732.out) hb);have n3_:=Aside0.mk (below_step (by repeat (first|(with_reducible first|exact HB.out|apply below_alloc|apply pw_below_drewN|apply below_drew1|refine below_set ?_ GE731.out|refine below_set ?_ GE732.out)|exact HB.out)) hb);have n4_:=Aside0.mk (hbox);have n5_:=Aside0.mk ((by rw [hg];exact (below_size (by repeat (first|(with_reducible first|exact HB.out|apply below_alloc|apply pw_below_drewN|apply below_drew1|refine below_set ?_ GE731.out|refine below_set ?_ GE732.out)|exact HB.out))) : w.heap.size ≤ gb746));have n6_:=Aside0.mk ((by rw [hg];exact (below_size (by repeat (first|(with_reducible first|exact HB.out|apply below_alloc|apply pw_below_drewN|apply below_drew1|refine below_set ?_ GE731.out|refine below_set ?_ GE732.out)|exact HB.out))) : w.heap.size ≤ gb746))
            have n7_:=Aside0.mk ((by rw [hg];exact Nat.ne_of_lt (blk_lt (g:=gb731) (o:=.cells #[.slice A0_0 l0_0.length c0_0,.slice A0_1 l0_1.length c0_1,.slice A0_2 l0_2.length c0_2] 24 (0,0)) (by (with_reducible repeat (first|refine blk_drewN ?_ _|refine blk_drew ?_|refine blk_alloc ?_ _));exact BK731.out)) : gb731 ≠ gb746));have n8_:=Aside0.mk ((by rw [hg];exact Nat.ne_of_gt (blk_lt (g:=gb731) (o:=.cells #[.slice A0_0 l0_0.length c0_0,.slice A0_1 l0_1.length c0_1,.slice A0_2 l0_2.length c0_2] 24 (0,0)) (by (with_reducible repeat (first|refine blk_drewN ?_ _|refine blk_drew ?_|refine blk_alloc ?_ _));exact BK731.out)) : gb746 ≠ gb731));have n9_:=Aside0.mk ((by rw [hg];exact Nat.ne_of_lt (blk_lt (g:=gb732) (o:=.cells #[.slice none 0 0,.slice none 0 0,.slice none 0 0] 24 (0,0)) (by (with_reducible repeat (first|refine blk_drewN ?_ _|refine blk_drew ?_|refine blk_alloc ?_ _));exact BK732.out)) : gb732 ≠ gb746));have n10_:=Aside0.mk ((by rw [hg];exact Nat.ne_of_gt (blk_lt (g:=gb732) (o:=.cells #[.slice none 0 0,.slice none 0 0,.slice none 0 0] 24 (0,0)) (by (with_reducible repeat (first|refine blk_drewN ?_ _|refine blk_drew ?_|refine blk_alloc ?_ _));exact BK732.out)) : gb746 ≠ gb732));clear HO739 BK731 BK732 HB;have HO739:=n0_;have BK731:=n1_;have BK732:=n2_;have HB:=n3_;have BK746:=n4_;have GW746:=n5_;have GE746:=n6_;have NB731_746:=n7_;have NB746_731:=n8_
            have NB732_746:=n9_;have NB746_732:=n10_;clear n0_ n1_ n2_ n3_ n4_ n5_ n6_ n7_ n8_ n9_ n10_ hb hbox hg
            refine hK.out _ _ ⟨(blk_cell BK731.out 0).trans rfl,(blk_cell BK731.out 1).trans rfl,(blk_cell BK731.out 2).trans rfl⟩ (fun hHeld => ?_);clear hK K
            refine norm_ (a':=?_) ?_ ?_;rotate_left
            ·
             show Act.put _ (some 3) _ = _
             simp only [Act.put,List.setIfInBounds_toArray,List.set_cons_zero,List.set_cons_succ,i64_w,i32_w]
             rfl
            exact norm_ (by first|(simp only [putAll,Act.put,List.setIfInBounds_toArray,List.set_cons_zero,List.set_cons_succ];done)|(simp only [putAll,Act.put,List.setIfInBounds_toArray,List.set_cons_zero,List.set_cons_succ];rfl)) (hJ0_3_9 (v735,v738,gb746) _ ⟨hHeld,(by (with_reducible repeat (first|apply Kd.R_alloc|apply Kd.R_drewN|apply Kd.R_drew));exact HO739.out),(by (with_reducible repeat (first|refine blk_drewN ?_ _|refine blk_drew ?_|refine blk_alloc ?_ _));exact BK731.out),(by (with_reducible repeat (first|refine blk_drewN ?_ _|refine blk_drew ?_|refine blk_alloc ?_ _));exact BK732.out),(by (with_reducible repeat (first|refine blk_drewN ?_ _|refine blk_drew ?_|refine blk_alloc ?_ _));exact BK746.out),GW746.out,GE746.out,NB731_746.out,NB746_731.out,NB732_746.out,NB746_732.out,(by repeat (first|(with_reducible first|exact HB.out|apply below_alloc|apply pw_below_drewN|apply below_drew1|refine below_set ?_ GE731.out|refine below_set ?_ GE732.out|refine below_set ?_ GE746.out)|exact HB.out))⟩)
         ·
          skip
          rintro ⟨v735,v741,gb746⟩ w17 ⟨hS_,h0_,h1_,h2_,h3_,h4_,h5_,h6_,h7_,h8_,h9_,h10_,h11_⟩
          have n0_ : Aside0 (Kd.R (Kd.int .i64) 3 w17 w.heap.size (fun k_ => some k_ ≠ (v741 : Value).ownBlock) v735 y734):=⟨h0_⟩
          have n1_ : Aside0 (Kd.R (Kd.int .i64) 3 w17 w.heap.size (fun k_ => some k_ ≠ (v735 : Value).ownBlock) v741 y740):=⟨h1_⟩
          have n2_ : Aside0 (w17.heap[gb731]? = some (.cells #[.slice A0_0 l0_0.length c0_0,.slice A0_1 l0_1.length c0_1,.slice A0_2 l0_2.length c0_2] 24 (0,0))):=⟨h2_⟩
          have n3_ : Aside0 (w17.heap[gb732]? = some (.cells #[.slice none 0 0,.slice none 0 0,.slice none 0 0] 24 (0,0))):=⟨h3_⟩
          have n4_ : Aside0 (w17.heap[gb746]? = some (.cells #[.slice none 0 0,.slice none 0 0,.slice none 0 0] 24 (0,0))):=⟨h4_⟩
          have n5_ : Aside0 (w.heap.size ≤ gb746):=⟨h5_⟩
          have n6_ : Aside0 (w.heap.size ≤ gb746):=⟨h6_⟩
          have n7_ : Aside0 (gb731 ≠ gb746):=⟨h7_⟩
          have n8_ : Aside0 (gb746 ≠ gb731):=⟨h8_⟩
          have n9_ : Aside0 (gb732 ≠ gb746):=⟨h9_⟩
          have n10_ : Aside0 (gb746 ≠ gb732):=⟨h10_⟩
          have n11_ : Aside0 (Below w.heap.size w w17):=⟨h11_⟩;clear BK731 BK732 HB h0_ h1_ h2_ h3_ h4_ h5_ h6_ h7_ h8_ h9_ h10_ h11_;have HO736:=n0_;have HO742:=n1_;have BK731:=n2_;have BK732:=n3_;have BK746:=n4_;have GW746:=n5_;have GE746:=n6_;have NB731_746:=n7_;have NB746_731:=n8_;have NB732_746:=n9_;have NB746_732:=n10_;have HB:=n11_;clear n0_ n1_ n2_ n3_ n4_ n5_ n6_ n7_ n8_ n9_ n10_ n11_
          have hHeld : w17.cell? ⟨gb731,0,none⟩ = some (.slice A0_0 l0_0.length c0_0) ∧ w17.cell? ⟨gb731,1,none⟩ = some (.slice A0_1 l0_1.length c0_1) ∧ w17.cell? ⟨gb731,2,none⟩ = some (.slice A0_2 l0_2.length c0_2):=hS_
          refine norm_ (a':=?_) ?_ ?_;rotate_left
          ·
           simp only [putAll,Act.put,List.setIfInBounds_toArray,List.set_cons_zero,List.set_cons_succ]
           rfl
          refine one_ (i:=3) (N:=some 12) #[true,true,true,true,true,true,true,false,false,true,false] rfl rfl (one_of HT_.out (by kernel_rfl)) (by decide) (fun K hK => ?_)
          refine Kd.R_append_rows_step (Kd.int .i64) (w0:=w) w.heap.size (by rfl) (.tmp 9) (.tmp 11) 22 3 (.int .i64 0) 8 rfl Try.underlying22 info3 rfl (by decide) (by omega) v735 y734 l0_0 _ _ _ (fun k_ => some k_ ≠ (v741 : Value).ownBlock) (fun _ => False) rfl rfl ?aO ?aR (fun _ _ h => h) (fun _ h => h.elim) ?aF ?aB ?aS ?aL ?_
          (case aR => repeat (first|exact (Kd.C_below HR0_0.out HB.out)|(with_reducible refine Kd.C_alloc ?_ _)|(with_reducible refine Kd.C_drewN ?_ _)|(with_reducible refine Kd.C_drew ?_)))
          (case aB => exact (by repeat (first|(with_reducible first|exact HB.out|apply below_alloc|apply pw_below_drewN|apply below_drew1|refine below_set ?_ GE731.out|refine below_set ?_ GE732.out|refine below_set ?_ GE746.out)|exact HB.out)))
          (case aF => exact (fun k_ hk => Kd.fresh' (Kd.R_lt (by (with_reducible repeat (first|apply Kd.R_alloc|apply Kd.R_drewN|apply Kd.R_drew));exact HO742.out)) k_ hk))
          (case aO => exact (by (with_reducible repeat (first|apply Kd.R_alloc|apply Kd.R_drewN|apply Kd.R_drew));exact HO736.out))
          (case aS => exact (below_size (by repeat (first|(with_reducible first|exact HB.out|apply below_alloc|apply pw_below_drewN|apply below_drew1|refine below_set ?_ GE731.out|refine below_set ?_ GE732.out|refine below_set ?_ GE746.out)|exact HB.out))))
          (case aL => have:=LMc4.out;omega);intro v738 w18 ho hb hg hat
          rw [← Ny737.out] at ho;have n0_:=Aside0.mk (blk_grown (g:=gb731) (o:=.cells #[.slice A0_0 l0_0.length c0_0,.slice A0_1 l0_1.length c0_1,.slice A0_2 l0_2.length c0_2] 24 (0,0)) (by (with_reducible repeat (first|refine blk_drewN ?_ _|refine blk_drew ?_|refine blk_alloc ?_ _));exact BK731.out) hg (Kd.R_ne HO736.out BK731.out (by decide)));have n1_:=Aside0.mk (blk_grown (g:=gb732) (o:=.cells #[.slice none 0 0,.slice none 0 0,.slice none 0 0] 24 (0,0)) (by (with_reducible repeat (first|refine blk_drewN ?_ _|refine blk_drew ?_|refine blk_alloc ?_ _));exact BK732.out) hg (Kd.R_ne HO736.out BK732.out (by decide)));have n2_:=Aside0.mk (Kd.R_after (ok:=(fun _ => True)) (by (with_reducible repeat (first|apply Kd.R_alloc|apply Kd.R_drewN|apply Kd.R_drew));exact Kd.R_mono HO742.out (fun _ hk => ⟨trivial,hk⟩)) hg hat);have n3_:=Aside0.mk (blk_grown (g:=gb746) (o:=.cells #[.slice none 0 0,.slice none 0 0,.slice none 0 0] 24 (0,0)) (by (with_reducible repeat (first|refine blk_drewN ?_ _|refine blk_drew ?_|refine blk_alloc ?_ _));exact BK746.out) hg (Kd.R_ne HO736.out BK746.out (by decide)));have n4_:=Aside0.mk (hb);have n5_:=Aside0.mk (ho);clear BK731 BK732 HO742 BK746 HB HO736;have BK731:=n0_;have BK732:=n1_;have HO742:=n2_;have BK746:=n3_;have HB:=n4_;have HO739:=n5_;clear n0_ n1_ n2_ n3_ n4_ n5_ ho hb hg hat
          refine hK.out _ _ ⟨(blk_cell BK731.out 0).trans rfl,(blk_cell BK731.out 1).trans rfl,(blk_cell BK731.out 2).trans rfl⟩ (fun hHeld => ?_);clear hK K
          refine norm_ (a':=?_) ?_ ?_;rotate_left
          ·
           show Act.put _ (some 12) _ = _
           simp only [Act.put,List.setIfInBounds_toArray,List.set_cons_zero,List.set_cons_succ,i64_w,i32_w]
           rfl
          exact norm_ (by first|(simp only [putAll,Act.put,List.setIfInBounds_toArray,List.set_cons_zero,List.set_cons_succ];done)|(simp only [putAll,Act.put,List.setIfInBounds_toArray,List.set_cons_zero,List.set_cons_succ];rfl)) (hJ0_3_4_9 (v735,v738,v741,gb746) _ ⟨hHeld,(by (with_reducible repeat (first|apply Kd.R_alloc|apply Kd.R_drewN|apply Kd.R_drew));exact HO739.out),(by (with_reducible repeat (first|apply Kd.R_alloc|apply Kd.R_drewN|apply Kd.R_drew));exact Kd.R_mono HO742.out (fun _ hk => hk.2)),(by (with_reducible repeat (first|refine blk_drewN ?_ _|refine blk_drew ?_|refine blk_alloc ?_ _));exact BK731.out),(by (with_reducible repeat (first|refine blk_drewN ?_ _|refine blk_drew ?_|refine blk_alloc ?_ _));exact BK732.out),(by (with_reducible repeat (first|refine blk_drewN ?_ _|refine blk_drew ?_|refine blk_alloc ?_ _));exact BK746.out),GW746.out,GE746.out,NB731_746.out,NB746_731.out,NB732_746.out,NB746_732.out,(by repeat (first|(with_reducible first|exact HB.out|apply below_alloc|apply pw_below_drewN|apply below_drew1|refine below_set ?_ GE731.out|refine below_set ?_ GE732.out|refine below_set ?_ GE746.out)|exact HB.out))⟩)
        ·
         skip
         rintro ⟨v735,v738,gb746⟩ w16 ⟨hS_,h0_,h1_,h2_,h3_,h4_,h5_,h6_,h7_,h8_,h9_,h10_⟩
         have n0_ : Aside0 (Kd.R (Kd.int .i64) 3 w16 w.heap.size (fun _ => True) v738 y737):=⟨h0_⟩
         have n1_ : Aside0 (w16.heap[gb731]? = some (.cells #[.slice A0_0 l0_0.length c0_0,.slice A0_1 l0_1.length c0_1,.slice A0_2 l0_2.length c0_2] 24 (0,0))):=⟨h1_⟩
         have n2_ : Aside0 (w16.heap[gb732]? = some (.cells #[.slice none 0 0,.slice none 0 0,.slice none 0 0] 24 (0,0))):=⟨h2_⟩
         have n3_ : Aside0 (w16.heap[gb746]? = some (.cells #[.slice none 0 0,.slice none 0 0,.slice none 0 0] 24 (0,0))):=⟨h3_⟩
         have n4_ : Aside0 (w.heap.size ≤ gb746):=⟨h4_⟩
         have n5_ : Aside0 (w.heap.size ≤ gb746):=⟨h5_⟩
         have n6_ : Aside0 (gb731 ≠ gb746):=⟨h6_⟩
         have n7_ : Aside0 (gb746 ≠ gb731):=⟨h7_⟩
         have n8_ : Aside0 (gb732 ≠ gb746):=⟨h8_⟩
         have n9_ : Aside0 (gb746 ≠ gb732):=⟨h9_⟩
         have n10_ : Aside0 (Below w.heap.size w w16):=⟨h10_⟩;clear BK731 BK732 HB h0_ h1_ h2_ h3_ h4_ h5_ h6_ h7_ h8_ h9_ h10_;have HO739:=n0_;have BK731:=n1_;have BK732:=n2_;have BK746:=n3_;have GW746:=n4_;have GE746:=n5_;have NB731_746:=n6_;have NB746_731:=n7_;have NB732_746:=n8_;have NB746_732:=n9_;have HB:=n10_;clear n0_ n1_ n2_ n3_ n4_ n5_ n6_ n7_ n8_ n9_ n10_
         have hHeld : w16.cell? ⟨gb731,0,none⟩ = some (.slice A0_0 l0_0.length c0_0) ∧ w16.cell? ⟨gb731,1,none⟩ = some (.slice A0_1 l0_1.length c0_1) ∧ w16.cell? ⟨gb731,2,none⟩ = some (.slice A0_2 l0_2.length c0_2):=hS_
         refine norm_ (a':=?_) ?_ ?_;rotate_left
         ·
          simp only [putAll,Act.put,List.setIfInBounds_toArray,List.set_cons_zero,List.set_cons_succ]
          rfl
         refine one_ (i:=4) (N:=some 13) #[true,true,true,true,true,true,true,false,false,true,false] rfl rfl (one_of HT_.out (by kernel_rfl)) (by decide) (fun K hK => ?_)
         refine Kd.R_lit_step (Kd.int .i64) _ 3 ?hg (N:=13) ?hd (xs:=([] : List Int)) (inner:=[]) (ok:=fun _ => True) (okp:=fun _ => True) ?hr ?hp (fun _ hk => hk) trivial (Below.refl _ _) (Nat.le_refl _) (by simp) ?_;(case hd => rfl);(case hg => rfl);(case hr => first|(go_simp;done)|(go_simp;rfl));(case hp => exact (Reps.none _ _));intro v741 w17 ho18 hb hg_ hnew_;clear hg_ hnew_
         (first|rw [← Ny740.out] at ho18|(simp only [Int.reduceToNat] at ho18;rw [← Ny740.out] at ho18));have n0_:=Aside0.mk (Kd.R_elder' (by (with_reducible repeat (first|apply Kd.R_alloc|apply Kd.R_drewN|apply Kd.R_drew));exact HO739.out) (Kd.R_base ho18) hb);have n1_:=Aside0.mk (Kd.R_lower (Kd.R_new' ho18 (Kd.R_lt (by (with_reducible repeat (first|apply Kd.R_alloc|apply Kd.R_drewN|apply Kd.R_drew));exact HO739.out))) (below_size (by repeat (first|(with_reducible first|exact HB.out|apply below_alloc|apply pw_below_drewN|apply below_drew1|refine below_set ?_ GE731.out|refine below_set ?_ GE732.out|refine below_set ?_ GE746.out)|exact HB.out))));have n2_:=Aside0.mk (blk_below (g:=gb731) (o:=.cells #[.slice A0_0 l0_0.length c0_0,.slice A0_1 l0_1.length c0_1,.slice A0_2 l0_2.length c0_2] 24 (0,0)) (by (with_reducible repeat (first|refine blk_drewN ?_ _|refine blk_drew ?_|refine blk_alloc ?_ _));exact BK731.out) hb);have n3_:=Aside0.mk (blk_below (g:=gb732) (o:=.cells #[.slice none 0 0,.slice none 0 0,.slice none 0 0] 24 (0,0)) (by (with_reducible repeat (first|refine blk_drewN ?_ _|refine blk_drew ?_|refine blk_alloc ?_ _));exact BK732.out) hb);have n4_:=Aside0.mk (blk_below (g:=gb746) (o:=.cells #[.slice none 0 0,.slice none 0 0,.slice none 0 0] 24 (0,0)) (by (with_reducible repeat (first|refine blk_drewN ?_ _|refine blk_drew ?_|refine blk_alloc ?_ _));exact BK746.out) hb);have n5_:=Aside0.mk (below_step (by repeat (first|(with_reducible first|exact HB.out|apply below_alloc|apply pw_below_drewN|apply below_drew1|refine below_set ?_ GE731.out|refine below_set ?_ GE732.out|refine below_set ?_ GE746.out)|exact HB.out)) hb)
         clear HO739 BK731 BK732 BK746 HB;have HO739:=n0_;have HO742:=n1_;have BK731:=n2_;have BK732:=n3_;have BK746:=n4_;have HB:=n5_;clear n0_ n1_ n2_ n3_ n4_ n5_ hb ho18
         refine hK.out _ _ ⟨(blk_cell BK731.out 0).trans rfl,(blk_cell BK731.out 1).trans rfl,(blk_cell BK731.out 2).trans rfl⟩ (fun hHeld => ?_);clear hK K
         refine norm_ (a':=?_) ?_ ?_;rotate_left
         ·
          show Act.put _ (some 13) _ = _
          simp only [Act.put,List.setIfInBounds_toArray,List.set_cons_zero,List.set_cons_succ,i64_w,i32_w]
          rfl
         exact norm_ (by first|(simp only [putAll,Act.put,List.setIfInBounds_toArray,List.set_cons_zero,List.set_cons_succ];done)|(simp only [putAll,Act.put,List.setIfInBounds_toArray,List.set_cons_zero,List.set_cons_succ];rfl)) (hJ0_3_4_9 (v735,v738,v741,gb746) _ ⟨hHeld,(by (with_reducible repeat (first|apply Kd.R_alloc|apply Kd.R_drewN|apply Kd.R_drew));exact Kd.R_mono HO739.out (fun _ hk => hk.2)),(by (with_reducible repeat (first|apply Kd.R_alloc|apply Kd.R_drewN|apply Kd.R_drew));exact Kd.R_mono HO742.out (fun _ hk => hk.2)),(by (with_reducible repeat (first|refine blk_drewN ?_ _|refine blk_drew ?_|refine blk_alloc ?_ _));exact BK731.out),(by (with_reducible repeat (first|refine blk_drewN ?_ _|refine blk_drew ?_|refine blk_alloc ?_ _));exact BK732.out),(by (with_reducible repeat (first|refine blk_drewN ?_ _|refine blk_drew ?_|refine blk_alloc ?_ _));exact BK746.out),GW746.out,GE746.out,NB731_746.out,NB746_731.out,NB732_746.out,NB746_732.out,(by repeat (first|(with_reducible first|exact HB.out|apply below_alloc|apply pw_below_drewN|apply below_drew1|refine below_set ?_ GE731.out|refine below_set ?_ GE732.out|refine below_set ?_ GE746.out)|exact HB.out))⟩)
       ·
        skip
        rintro ⟨v735,v738,v741⟩ w17 ⟨hS_,h0_,h1_,h2_,h3_,h4_⟩
        have n0_ : Aside0 (Kd.R (Kd.int .i64) 3 w17 w.heap.size (fun k_ => some k_ ≠ (v741 : Value).ownBlock) v738 y737):=⟨h0_⟩
        have n1_ : Aside0 (Kd.R (Kd.int .i64) 3 w17 w.heap.size (fun k_ => some k_ ≠ (v738 : Value).ownBlock) v741 y740):=⟨h1_⟩
        have n2_ : Aside0 (w17.heap[gb731]? = some (.cells #[.slice A0_0 l0_0.length c0_0,.slice A0_1 l0_1.length c0_1,.slice A0_2 l0_2.length c0_2] 24 (0,0))):=⟨h2_⟩
        have n3_ : Aside0 (w17.heap[gb732]? = some (.cells #[.slice none 0 0,.slice none 0 0,.slice none 0 0] 24 (0,0))):=⟨h3_⟩
        have n4_ : Aside0 (Below w.heap.size w w17):=⟨h4_⟩;clear BK731 BK732 HB h0_ h1_ h2_ h3_ h4_;have HO739:=n0_;have HO742:=n1_;have BK731:=n2_;have BK732:=n3_;have HB:=n4_;clear n0_ n1_ n2_ n3_ n4_
        have hHeld : w17.cell? ⟨gb731,0,none⟩ = some (.slice A0_0 l0_0.length c0_0) ∧ w17.cell? ⟨gb731,1,none⟩ = some (.slice A0_1 l0_1.length c0_1) ∧ w17.cell? ⟨gb731,2,none⟩ = some (.slice A0_2 l0_2.length c0_2):=hS_
        refine norm_ (a':=?_) ?_ ?_;rotate_left
        ·
         simp only [putAll,Act.put,List.setIfInBounds_toArray,List.set_cons_zero,List.set_cons_succ]
         rfl
        refine two_ (i:=7) (j:=9) (Ni:=some 16) (Nj:=some 3) #[true,true,true,true,true,true,true,true,false,false,false] #[true,true,true,true,true,true,true,false,false,true,false] rfl rfl rfl rfl (two_of HT_.out (by kernel_rfl)) (by decide) (by decide) (fun K hK => ?_) (fun K hK => ?_)
        ·
         skip
         refine Kd.R_append_rows_step (Kd.int .i64) (w0:=w) w.heap.size (by rfl) (.tmp 13) (.tmp 15) 22 3 (.int .i64 0) 8 rfl Try.underlying22 info3 rfl (by decide) (by omega) v741 y740 l0_1 _ _ _ (fun k_ => some k_ ≠ (v738 : Value).ownBlock) (fun _ => False) rfl rfl ?aO ?aR (fun _ _ h => h) (fun _ h => h.elim) ?aF ?aB ?aS ?aL ?_
         (case aR => repeat (first|exact (Kd.C_below HR0_1.out HB.out)|(with_reducible refine Kd.C_alloc ?_ _)|(with_reducible refine Kd.C_drewN ?_ _)|(with_reducible refine Kd.C_drew ?_)))
         (case aB => exact (by repeat (first|(with_reducible first|exact HB.out|apply below_alloc|apply pw_below_drewN|apply below_drew1|refine below_set ?_ GE731.out|refine below_set ?_ GE732.out)|exact HB.out)))
         (case aF => exact (fun k_ hk => Kd.fresh' (Kd.R_lt (by (with_reducible repeat (first|apply Kd.R_alloc|apply Kd.R_drewN|apply Kd.R_drew));exact HO739.out)) k_ hk))
         (case aO => exact (by (with_reducible repeat (first|apply Kd.R_alloc|apply Kd.R_drewN|apply Kd.R_drew));exact HO742.out))
         (case aS => exact (below_size (by repeat (first|(with_reducible first|exact HB.out|apply below_alloc|apply pw_below_drewN|apply below_drew1|refine below_set ?_ GE731.out|refine below_set ?_ GE732.out)|exact HB.out))))
         (case aL => have:=LMc5.out;omega);intro v744 w18 ho hb hg hat
         rw [← Ny743.out] at ho;have n0_:=Aside0.mk (blk_grown (g:=gb731) (o:=.cells #[.slice A0_0 l0_0.length c0_0,.slice A0_1 l0_1.length c0_1,.slice A0_2 l0_2.length c0_2] 24 (0,0)) (by (with_reducible repeat (first|refine blk_drewN ?_ _|refine blk_drew ?_|refine blk_alloc ?_ _));exact BK731.out) hg (Kd.R_ne HO742.out BK731.out (by decide)));have n1_:=Aside0.mk (blk_grown (g:=gb732) (o:=.cells #[.slice none 0 0,.slice none 0 0,.slice none 0 0] 24 (0,0)) (by (with_reducible repeat (first|refine blk_drewN ?_ _|refine blk_drew ?_|refine blk_alloc ?_ _));exact BK732.out) hg (Kd.R_ne HO742.out BK732.out (by decide)));have n2_:=Aside0.mk (Kd.R_after (ok:=(fun _ => True)) (by (with_reducible repeat (first|apply Kd.R_alloc|apply Kd.R_drewN|apply Kd.R_drew));exact Kd.R_mono HO739.out (fun _ hk => ⟨trivial,hk⟩)) hg hat);have n3_:=Aside0.mk (hb);have n4_:=Aside0.mk (ho);clear BK731 BK732 HO739 HB HO742;have BK731:=n0_;have BK732:=n1_;have HO739:=n2_;have HB:=n3_;have HO745:=n4_;clear n0_ n1_ n2_ n3_ n4_ ho hb hg hat
         obtain ⟨Ao19,co19,eo19⟩:=Kd.R_slice HO745.out
         (first|subst eo19|(injection eo19 with f1_ f2_ f3_;have f4_:=f1_.symm;have f5_:=f3_.symm;clear f1_ f2_ f3_;subst f4_;subst f5_))
         obtain ⟨Ao20,co20,eo20⟩:=Kd.R_slice HO739.out
         (first|subst eo20|(injection eo20 with f1_ f2_ f3_;have f4_:=f1_.symm;have f5_:=f3_.symm;clear f1_ f2_ f3_;subst f4_;subst f5_))
         refine hK.out _ _ ⟨(blk_cell BK731.out 0).trans rfl,(blk_cell BK731.out 1).trans rfl,(blk_cell BK731.out 2).trans rfl⟩ (fun hHeld => ?_);clear hK K
         refine norm_ (a':=?_) ?_ ?_;rotate_left
         ·
          show Act.put _ (some 16) _ = _
          simp only [Act.put,List.setIfInBounds_toArray,List.set_cons_zero,List.set_cons_succ,i64_w,i32_w]
          rfl
         refine pure_ (i:=8) (N:=some 17) (v:=?_) (a':=?_) #[true,true,true,true,true,true,true,true,true,false,false] rfl rfl (any_of HT_.out (by kernel_rfl)) (fun _ _ _ h => h) (Or.inl ⟨by rfl,?_⟩) ?_ ?_;rotate_left
         ·
          intro w'
          go_simp
          with_reducible rfl
         rotate_left
         ·
          simp only [Act.put,List.setIfInBounds_toArray,List.set_cons_zero,List.set_cons_succ,i64_w,i32_w]
          rfl
         exact norm_ (by first|(simp only [putAll,Act.put,List.setIfInBounds_toArray,List.set_cons_zero,List.set_cons_succ];done)|(simp only [putAll,Act.put,List.setIfInBounds_toArray,List.set_cons_zero,List.set_cons_succ];rfl)) (hJ0_3_4_7 (v735,.slice Ao20 y737.length co20,v741,.slice Ao19 y743.length co19) _ ⟨hHeld,(by (with_reducible repeat (first|apply Kd.R_alloc|apply Kd.R_drewN|apply Kd.R_drew));exact Kd.R_mono HO739.out (fun _ hk => hk.2)),(by (with_reducible repeat (first|apply Kd.R_alloc|apply Kd.R_drewN|apply Kd.R_drew));exact HO745.out),(by (with_reducible repeat (first|refine blk_drewN ?_ _|refine blk_drew ?_|refine blk_alloc ?_ _));exact BK731.out),(by (with_reducible repeat (first|refine blk_drewN ?_ _|refine blk_drew ?_|refine blk_alloc ?_ _));exact BK732.out),(by repeat (first|(with_reducible first|exact HB.out|apply below_alloc|apply pw_below_drewN|apply below_drew1|refine below_set ?_ GE731.out|refine below_set ?_ GE732.out)|exact HB.out))⟩)
        ·
         skip
         refine box_step ?hg (N:=3) ?hd (cs:=#[.slice none 0 0,.slice none 0 0,.slice none 0 0]) (t:=24) ?hr ?_;(case hd => rfl);(case hg => rfl);(case hr => first|(go_simp;done)|(go_simp;rfl));intro gb746 hg w18 hbox hb;have n0_:=Aside0.mk (Kd.R_below (by (with_reducible repeat (first|apply Kd.R_alloc|apply Kd.R_drewN|apply Kd.R_drew));exact HO739.out) hb);have n1_:=Aside0.mk (Kd.R_below (by (with_reducible repeat (first|apply Kd.R_alloc|apply Kd.R_drewN|apply Kd.R_drew));exact HO742.out) hb);have n2_:=Aside0.mk (blk_below (g:=gb731) (o:=.cells #[.slice A0_0 l0_0.length c0_0,.slice A0_1 l0_1.length c0_1,.slice A0_2 l0_2.length c0_2] 24 (0,0)) (by (with_reducible repeat (first|refine blk_drewN ?_ _|refine blk_drew ?_|refine blk_alloc ?_ _));exact BK731.out) hb);have n3_:=Aside0.mk (blk_below (g:=gb732) (o:=.cells #[.slice none 0 0,.slice none 0 0,.slice none 0 0] 24 (0,0)) (by (with_reducible repeat (first|refine blk_drewN ?_ _|refine blk_drew ?_|refine blk_alloc ?_ _));exact BK732.out) hb);have n4_:=Aside0.mk (below_step (by repeat (first|(with_reducible first|exact HB.out|apply below_alloc|apply pw_below_drewN|apply below_drew1|refine below_set ?_ GE731.out|refine below_set ?_ GE732.out)|exact HB.out)) hb);have n5_:=Aside0.mk (hbox);have n6_:=Aside0.mk ((by rw [hg];exact (below_size (by repeat (first|(with_reducible first|exact HB.out|apply below_alloc|apply pw_below_drewN|apply below_drew1|refine below_set ?_ GE731.out|refine below_set ?_ GE732.out)|exact HB.out))) : w.heap.size ≤ gb746))
         have n7_:=Aside0.mk ((by rw [hg];exact (below_size (by repeat (first|(with_reducible first|exact HB.out|apply below_alloc|apply pw_below_drewN|apply below_drew1|refine below_set ?_ GE731.out|refine below_set ?_ GE732.out)|exact HB.out))) : w.heap.size ≤ gb746));have n8_:=Aside0.mk ((by rw [hg];exact Nat.ne_of_lt (blk_lt (g:=gb731) (o:=.cells #[.slice A0_0 l0_0.length c0_0,.slice A0_1 l0_1.length c0_1,.slice A0_2 l0_2.length c0_2] 24 (0,0)) (by (with_reducible repeat (first|refine blk_drewN ?_ _|refine blk_drew ?_|refine blk_alloc ?_ _));exact BK731.out)) : gb731 ≠ gb746));have n9_:=Aside0.mk ((by rw [hg];exact Nat.ne_of_gt (blk_lt (g:=gb731) (o:=.cells #[.slice A0_0 l0_0.length c0_0,.slice A0_1 l0_1.length c0_1,.slice A0_2 l0_2.length c0_2] 24 (0,0)) (by (with_reducible repeat (first|refine blk_drewN ?_ _|refine blk_drew ?_|refine blk_alloc ?_ _));exact BK731.out)) : gb746 ≠ gb731));have n10_:=Aside0.mk ((by rw [hg];exact Nat.ne_of_lt (blk_lt (g:=gb732) (o:=.cells #[.slice none 0 0,.slice none 0 0,.slice none 0 0] 24 (0,0)) (by (with_reducible repeat (first|refine blk_drewN ?_ _|refine blk_drew ?_|refine blk_alloc ?_ _));exact BK732.out)) : gb732 ≠ gb746));have n11_:=Aside0.mk ((by rw [hg];exact Nat.ne_of_gt (blk_lt (g:=gb732) (o:=.cells #[.slice none 0 0,.slice none 0 0,.slice none 0 0] 24 (0,0)) (by (with_reducible repeat (first|refine blk_drewN ?_ _|refine blk_drew ?_|refine blk_alloc ?_ _));exact BK732.out)) : gb746 ≠ gb732))
         clear HO739 HO742 BK731 BK732 HB;have HO739:=n0_;have HO742:=n1_;have BK731:=n2_;have BK732:=n3_;have HB:=n4_;have BK746:=n5_;have GW746:=n6_;have GE746:=n7_;have NB731_746:=n8_;have NB746_731:=n9_;have NB732_746:=n10_;have NB746_732:=n11_;clear n0_ n1_ n2_ n3_ n4_ n5_ n6_ n7_ n8_ n9_ n10_ n11_ hb hbox hg
         refine hK.out _ _ ⟨(blk_cell BK731.out 0).trans rfl,(blk_cell BK731.out 1).trans rfl,(blk_cell BK731.out 2).trans rfl⟩ (fun hHeld => ?_);clear hK K
         refine norm_ (a':=?_) ?_ ?_;rotate_left
         ·
          show Act.put _ (some 3) _ = _
          simp only [Act.put,List.setIfInBounds_toArray,List.set_cons_zero,List.set_cons_succ,i64_w,i32_w]
          rfl
         exact norm_ (by first|(simp only [putAll,Act.put,List.setIfInBounds_toArray,List.set_cons_zero,List.set_cons_succ];done)|(simp only [putAll,Act.put,List.setIfInBounds_toArray,List.set_cons_zero,List.set_cons_succ];rfl)) (hJ0_3_4_9 (v735,v738,v741,gb746) _ ⟨hHeld,(by (with_reducible repeat (first|apply Kd.R_alloc|apply Kd.R_drewN|apply Kd.R_drew));exact HO739.out),(by (with_reducible repeat (first|apply Kd.R_alloc|apply Kd.R_drewN|apply Kd.R_drew));exact HO742.out),(by (with_reducible repeat (first|refine blk_drewN ?_ _|refine blk_drew ?_|refine blk_alloc ?_ _));exact BK731.out),(by (with_reducible repeat (first|refine blk_drewN ?_ _|refine blk_drew ?_|refine blk_alloc ?_ _));exact BK732.out),(by (with_reducible repeat (first|refine blk_drewN ?_ _|refine blk_drew ?_|refine blk_alloc ?_ _));exact BK746.out),GW746.out,GE746.out,NB731_746.out,NB746_731.out,NB732_746.out,NB746_732.out,(by repeat (first|(with_reducible first|exact HB.out|apply below_alloc|apply pw_below_drewN|apply below_drew1|refine below_set ?_ GE731.out|refine below_set ?_ GE732.out|refine below_set ?_ GE746.out)|exact HB.out))⟩)
      ·
       skip
       rintro ⟨v735,v738,v741,gb746⟩ w18 ⟨hS_,h0_,h1_,h2_,h3_,h4_,h5_,h6_,h7_,h8_,h9_,h10_,h11_⟩
       have n0_ : Aside0 (Kd.R (Kd.int .i64) 3 w18 w.heap.size (fun k_ => some k_ ≠ (v741 : Value).ownBlock) v738 y737):=⟨h0_⟩
       have n1_ : Aside0 (Kd.R (Kd.int .i64) 3 w18 w.heap.size (fun k_ => some k_ ≠ (v738 : Value).ownBlock) v741 y740):=⟨h1_⟩
       have n2_ : Aside0 (w18.heap[gb731]? = some (.cells #[.slice A0_0 l0_0.length c0_0,.slice A0_1 l0_1.length c0_1,.slice A0_2 l0_2.length c0_2] 24 (0,0))):=⟨h2_⟩
       have n3_ : Aside0 (w18.heap[gb732]? = some (.cells #[.slice none 0 0,.slice none 0 0,.slice none 0 0] 24 (0,0))):=⟨h3_⟩
       have n4_ : Aside0 (w18.heap[gb746]? = some (.cells #[.slice none 0 0,.slice none 0 0,.slice none 0 0] 24 (0,0))):=⟨h4_⟩
       have n5_ : Aside0 (w.heap.size ≤ gb746):=⟨h5_⟩
       have n6_ : Aside0 (w.heap.size ≤ gb746):=⟨h6_⟩
       have n7_ : Aside0 (gb731 ≠ gb746):=⟨h7_⟩
       have n8_ : Aside0 (gb746 ≠ gb731):=⟨h8_⟩
       have n9_ : Aside0 (gb732 ≠ gb746):=⟨h9_⟩
       have n10_ : Aside0 (gb746 ≠ gb732):=⟨h10_⟩
       have n11_ : Aside0 (Below w.heap.size w w18):=⟨h11_⟩;clear BK731 BK732 HB h0_ h1_ h2_ h3_ h4_ h5_ h6_ h7_ h8_ h9_ h10_ h11_;have HO739:=n0_;have HO742:=n1_;have BK731:=n2_;have BK732:=n3_;have BK746:=n4_;have GW746:=n5_;have GE746:=n6_;have NB731_746:=n7_;have NB746_731:=n8_;have NB732_746:=n9_;have NB746_732:=n10_;have HB:=n11_;clear n0_ n1_ n2_ n3_ n4_ n5_ n6_ n7_ n8_ n9_ n10_ n11_
       have hHeld : w18.cell? ⟨gb731,0,none⟩ = some (.slice A0_0 l0_0.length c0_0) ∧ w18.cell? ⟨gb731,1,none⟩ = some (.slice A0_1 l0_1.length c0_1) ∧ w18.cell? ⟨gb731,2,none⟩ = some (.slice A0_2 l0_2.length c0_2):=hS_
       refine norm_ (a':=?_) ?_ ?_;rotate_left
       ·
        simp only [putAll,Act.put,List.setIfInBounds_toArray,List.set_cons_zero,List.set_cons_succ]
        rfl
       refine one_ (i:=7) (N:=some 16) #[true,true,true,true,true,true,true,true,false,true,false] rfl rfl (one_of HT_.out (by kernel_rfl)) (by decide) (fun K hK => ?_)
       refine Kd.R_append_rows_step (Kd.int .i64) (w0:=w) w.heap.size (by rfl) (.tmp 13) (.tmp 15) 22 3 (.int .i64 0) 8 rfl Try.underlying22 info3 rfl (by decide) (by omega) v741 y740 l0_1 _ _ _ (fun k_ => some k_ ≠ (v738 : Value).ownBlock) (fun _ => False) rfl rfl ?aO ?aR (fun _ _ h => h) (fun _ h => h.elim) ?aF ?aB ?aS ?aL ?_
       (case aR => repeat (first|exact (Kd.C_below HR0_1.out HB.out)|(with_reducible refine Kd.C_alloc ?_ _)|(with_reducible refine Kd.C_drewN ?_ _)|(with_reducible refine Kd.C_drew ?_)))
       (case aB => exact (by repeat (first|(with_reducible first|exact HB.out|apply below_alloc|apply pw_below_drewN|apply below_drew1|refine below_set ?_ GE731.out|refine below_set ?_ GE732.out|refine below_set ?_ GE746.out)|exact HB.out)))
       (case aF => exact (fun k_ hk => Kd.fresh' (Kd.R_lt (by (with_reducible repeat (first|apply Kd.R_alloc|apply Kd.R_drewN|apply Kd.R_drew));exact HO739.out)) k_ hk))
       (case aO => exact (by (with_reducible repeat (first|apply Kd.R_alloc|apply Kd.R_drewN|apply Kd.R_drew));exact HO742.out))
       (case aS => exact (below_size (by repeat (first|(with_reducible first|exact HB.out|apply below_alloc|apply pw_below_drewN|apply below_drew1|refine below_set ?_ GE731.out|refine below_set ?_ GE732.out|refine below_set ?_ GE746.out)|exact HB.out))))
       (case aL => have:=LMc5.out;omega);intro v744 w19 ho hb hg hat
       rw [← Ny743.out] at ho;have n0_:=Aside0.mk (blk_grown (g:=gb731) (o:=.cells #[.slice A0_0 l0_0.length c0_0,.slice A0_1 l0_1.length c0_1,.slice A0_2 l0_2.length c0_2] 24 (0,0)) (by (with_reducible repeat (first|refine blk_drewN ?_ _|refine blk_drew ?_|refine blk_alloc ?_ _));exact BK731.out) hg (Kd.R_ne HO742.out BK731.out (by decide)));have n1_:=Aside0.mk (blk_grown (g:=gb732) (o:=.cells #[.slice none 0 0,.slice none 0 0,.slice none 0 0] 24 (0,0)) (by (with_reducible repeat (first|refine blk_drewN ?_ _|refine blk_drew ?_|refine blk_alloc ?_ _));exact BK732.out) hg (Kd.R_ne HO742.out BK732.out (by decide)));have n2_:=Aside0.mk (Kd.R_after (ok:=(fun _ => True)) (by (with_reducible repeat (first|apply Kd.R_alloc|apply Kd.R_drewN|apply Kd.R_drew));exact Kd.R_mono HO739.out (fun _ hk => ⟨trivial,hk⟩)) hg hat);have n3_:=Aside0.mk (blk_grown (g:=gb746) (o:=.cells #[.slice none 0 0,.slice none 0 0,.slice none 0 0] 24 (0,0)) (by (with_reducible repeat (first|refine blk_drewN ?_ _|refine blk_drew ?_|refine blk_alloc ?_ _));exact BK746.out) hg (Kd.R_ne HO742.out BK746.out (by decide)));have n4_:=Aside0.mk (hb);have n5_:=Aside0.mk (ho);clear BK731 BK732 HO739 BK746 HB HO742;have BK731:=n0_;have BK732:=n1_;have HO739:=n2_;have BK746:=n3_;have HB:=n4_;have HO745:=n5_;clear n0_ n1_ n2_ n3_ n4_ n5_ ho hb hg hat
       obtain ⟨Ao20,co20,eo20⟩:=Kd.R_slice HO745.out
       (first|subst eo20|(injection eo20 with f1_ f2_ f3_;have f4_:=f1_.symm;have f5_:=f3_.symm;clear f1_ f2_ f3_;subst f4_;subst f5_))
       obtain ⟨Ao21,co21,eo21⟩:=Kd.R_slice HO739.out
       (first|subst eo21|(injection eo21 with f1_ f2_ f3_;have f4_:=f1_.symm;have f5_:=f3_.symm;clear f1_ f2_ f3_;subst f4_;subst f5_))
       refine hK.out _ _ ⟨(blk_cell BK731.out 0).trans rfl,(blk_cell BK731.out 1).trans rfl,(blk_cell BK731.out 2).trans rfl⟩ (fun hHeld => ?_);clear hK K
       refine norm_ (a':=?_) ?_ ?_;rotate_left
       ·
        show Act.put _ (some 16) _ = _
        simp only [Act.put,List.setIfInBounds_toArray,List.set_cons_zero,List.set_cons_succ,i64_w,i32_w]
        rfl
       refine pure_ (i:=8) (N:=some 17) (v:=?_) (a':=?_) #[true,true,true,true,true,true,true,true,true,true,false] rfl rfl (any_of HT_.out (by kernel_rfl)) (fun _ _ _ h => h) (Or.inl ⟨by rfl,?_⟩) ?_ ?_;rotate_left
       ·
        intro w'
        go_simp
        with_reducible rfl
       rotate_left
       ·
        simp only [Act.put,List.setIfInBounds_toArray,List.set_cons_zero,List.set_cons_succ,i64_w,i32_w]
        rfl
       exact norm_ (by first|(simp only [putAll,Act.put,List.setIfInBounds_toArray,List.set_cons_zero,List.set_cons_succ];done)|(simp only [putAll,Act.put,List.setIfInBounds_toArray,List.set_cons_zero,List.set_cons_succ];rfl)) (hJ0_3_4_7_9 (v735,.slice Ao21 y737.length co21,v741,.slice Ao20 y743.length co20,gb746) _ ⟨hHeld,(by (with_reducible repeat (first|apply Kd.R_alloc|apply Kd.R_drewN|apply Kd.R_drew));exact Kd.R_mono HO739.out (fun _ hk => hk.2)),(by (with_reducible repeat (first|apply Kd.R_alloc|apply Kd.R_drewN|apply Kd.R_drew));exact HO745.out),(by (with_reducible repeat (first|refine blk_drewN ?_ _|refine blk_drew ?_|refine blk_alloc ?_ _));exact BK731.out),(by (with_reducible repeat (first|refine blk_drewN ?_ _|refine blk_drew ?_|refine blk_alloc ?_ _));exact BK732.out),(by (with_reducible repeat (first|refine blk_drewN ?_ _|refine blk_drew ?_|refine blk_alloc ?_ _));exact BK746.out),GW746.out,GE746.out,NB731_746.out,NB746_731.out,NB732_746.out,NB746_732.out,(by repeat (first|(with_reducible first|exact HB.out|apply below_alloc|apply pw_below_drewN|apply below_drew1|refine below_set ?_ GE731.out|refine below_set ?_ GE732.out|refine below_set ?_ GE746.out)|exact HB.out))⟩)
     ·
      skip
      rintro ⟨v735,v738,v741,v744⟩ w20 ⟨hS_,h0_,h1_,h2_,h3_,h4_⟩
      have n0_ : Aside0 (Kd.R (Kd.int .i64) 3 w20 w.heap.size (fun k_ => some k_ ≠ (v744 : Value).ownBlock) v738 y737):=⟨h0_⟩
      have n1_ : Aside0 (Kd.R (Kd.int .i64) 3 w20 w.heap.size (fun k_ => some k_ ≠ (v738 : Value).ownBlock) v744 y743):=⟨h1_⟩
      have n2_ : Aside0 (w20.heap[gb731]? = some (.cells #[.slice A0_0 l0_0.length c0_0,.slice A0_1 l0_1.length c0_1,.slice A0_2 l0_2.length c0_2] 24 (0,0))):=⟨h2_⟩
      have n3_ : Aside0 (w20.heap[gb732]? = some (.cells #[.slice none 0 0,.slice none 0 0,.slice none 0 0] 24 (0,0))):=⟨h3_⟩
      have n4_ : Aside0 (Below w.heap.size w w20):=⟨h4_⟩;clear BK731 BK732 HB h0_ h1_ h2_ h3_ h4_;have HO739:=n0_;have HO745:=n1_;have BK731:=n2_;have BK732:=n3_;have HB:=n4_;clear n0_ n1_ n2_ n3_ n4_
      have hHeld : w20.cell? ⟨gb731,0,none⟩ = some (.slice A0_0 l0_0.length c0_0) ∧ w20.cell? ⟨gb731,1,none⟩ = some (.slice A0_1 l0_1.length c0_1) ∧ w20.cell? ⟨gb731,2,none⟩ = some (.slice A0_2 l0_2.length c0_2):=hS_
      obtain ⟨Ao21,co21,eo21⟩:=Kd.R_slice HO745.out
      (first|subst eo21|(injection eo21 with f1_ f2_ f3_;have f4_:=f1_.symm;have f5_:=f3_.symm;clear f1_ f2_ f3_;subst f4_;subst f5_))
      obtain ⟨Ao22,co22,eo22⟩:=Kd.R_slice HO739.out
      (first|subst eo22|(injection eo22 with f1_ f2_ f3_;have f4_:=f1_.symm;have f5_:=f3_.symm;clear f1_ f2_ f3_;subst f4_;subst f5_))
      refine norm_ (a':=?_) ?_ ?_;rotate_left
      ·
       simp only [putAll,Act.put,List.setIfInBounds_toArray,List.set_cons_zero,List.set_cons_succ]
       rfl
      refine one_ (i:=9) (N:=some 3) #[true,true,true,true,true,true,true,true,true,true,false] rfl rfl (one_of HT_.out (by kernel_rfl)) (by decide) (fun K hK => ?_)
      refine box_step ?hg (N:=3) ?hd (cs:=#[.slice none 0 0,.slice none 0 0,.slice none 0 0]) (t:=24) ?hr ?_;(case hd => rfl);(case hg => rfl);(case hr => first|(go_simp;done)|(go_simp;rfl));intro gb746 hg w23 hbox hb;have n0_:=Aside0.mk (Kd.R_below (by (with_reducible repeat (first|apply Kd.R_alloc|apply Kd.R_drewN|apply Kd.R_drew));exact HO739.out) hb);have n1_:=Aside0.mk (Kd.R_below (by (with_reducible repeat (first|apply Kd.R_alloc|apply Kd.R_drewN|apply Kd.R_drew));exact HO745.out) hb);have n2_:=Aside0.mk (blk_below (g:=gb731) (o:=.cells #[.slice A0_0 l0_0.length c0_0,.slice A0_1 l0_1.length c0_1,.slice A0_2 l0_2.length c0_2] 24 (0,0)) (by (with_reducible repeat (first|refine blk_drewN ?_ _|refine blk_drew ?_|refine blk_alloc ?_ _));exact BK731.out) hb);have n3_:=Aside0.mk (blk_below (g:=gb732) (o:=.cells #[.slice none 0 0,.slice none 0 0,.slice none 0 0] 24 (0,0)) (by (with_reducible repeat (first|refine blk_drewN ?_ _|refine blk_drew ?_|refine blk_alloc ?_ _));exact BK732.out) hb);have n4_:=Aside0.mk (below_step (by repeat (first|(with_reducible first|exact HB.out|apply below_alloc|apply pw_below_drewN|apply below_drew1|refine below_set ?_ GE731.out|refine below_set ?_ GE732.out)|exact HB.out)) hb);have n5_:=Aside0.mk (hbox);have n6_:=Aside0.mk ((by rw [hg];exact (below_size (by repeat (first|(with_reducible first|exact HB.out|apply below_alloc|apply pw_below_drewN|apply below_drew1|refine below_set ?_ GE731.out|refine below_set ?_ GE732.out)|exact HB.out))) : w.heap.size ≤ gb746))
      have n7_:=Aside0.mk ((by rw [hg];exact (below_size (by repeat (first|(with_reducible first|exact HB.out|apply below_alloc|apply pw_below_drewN|apply below_drew1|refine below_set ?_ GE731.out|refine below_set ?_ GE732.out)|exact HB.out))) : w.heap.size ≤ gb746));have n8_:=Aside0.mk ((by rw [hg];exact Nat.ne_of_lt (blk_lt (g:=gb731) (o:=.cells #[.slice A0_0 l0_0.length c0_0,.slice A0_1 l0_1.length c0_1,.slice A0_2 l0_2.length c0_2] 24 (0,0)) (by (with_reducible repeat (first|refine blk_drewN ?_ _|refine blk_drew ?_|refine blk_alloc ?_ _));exact BK731.out)) : gb731 ≠ gb746));have n9_:=Aside0.mk ((by rw [hg];exact Nat.ne_of_gt (blk_lt (g:=gb731) (o:=.cells #[.slice A0_0 l0_0.length c0_0,.slice A0_1 l0_1.length c0_1,.slice A0_2 l0_2.length c0_2] 24 (0,0)) (by (with_reducible repeat (first|refine blk_drewN ?_ _|refine blk_drew ?_|refine blk_alloc ?_ _));exact BK731.out)) : gb746 ≠ gb731));have n10_:=Aside0.mk ((by rw [hg];exact Nat.ne_of_lt (blk_lt (g:=gb732) (o:=.cells #[.slice none 0 0,.slice none 0 0,.slice none 0 0] 24 (0,0)) (by (with_reducible repeat (first|refine blk_drewN ?_ _|refine blk_drew ?_|refine blk_alloc ?_ _));exact BK732.out)) : gb732 ≠ gb746));have n11_:=Aside0.mk ((by rw [hg];exact Nat.ne_of_gt (blk_lt (g:=gb732) (o:=.cells #[.slice none 0 0,.slice none 0 0,.slice none 0 0] 24 (0,0)) (by (with_reducible repeat (first|refine blk_drewN ?_ _|refine blk_drew ?_|refine blk_alloc ?_ _));exact BK732.out)) : gb746 ≠ gb732))
      clear HO739 HO745 BK731 BK732 HB;have HO739:=n0_;have HO745:=n1_;have BK731:=n2_;have BK732:=n3_;have HB:=n4_;have BK746:=n5_;have GW746:=n6_;have GE746:=n7_;have NB731_746:=n8_;have NB746_731:=n9_;have NB732_746:=n10_;have NB746_732:=n11_;clear n0_ n1_ n2_ n3_ n4_ n5_ n6_ n7_ n8_ n9_ n10_ n11_ hb hbox hg
      refine hK.out _ _ ⟨(blk_cell BK731.out 0).trans rfl,(blk_cell BK731.out 1).trans rfl,(blk_cell BK731.out 2).trans rfl⟩ (fun hHeld => ?_);clear hK K
      refine norm_ (a':=?_) ?_ ?_;rotate_left
      ·
       show Act.put _ (some 3) _ = _
       simp only [Act.put,List.setIfInBounds_toArray,List.set_cons_zero,List.set_cons_succ,i64_w,i32_w]
       rfl
      exact norm_ (by first|(simp only [putAll,Act.put,List.setIfInBounds_toArray,List.set_cons_zero,List.set_cons_succ];done)|(simp only [putAll,Act.put,List.setIfInBounds_toArray,List.set_cons_zero,List.set_cons_succ];rfl)) (hJ0_3_4_7_9 (v735,.slice Ao22 y737.length co22,v741,.slice Ao21 y743.length co21,gb746) _ ⟨hHeld,(by (with_reducible repeat (first|apply Kd.R_alloc|apply Kd.R_drewN|apply Kd.R_drew));exact HO739.out),(by (with_reducible repeat (first|apply Kd.R_alloc|apply Kd.R_drewN|apply Kd.R_drew));exact HO745.out),(by (with_reducible repeat (first|refine blk_drewN ?_ _|refine blk_drew ?_|refine blk_alloc ?_ _));exact BK731.out),(by (with_reducible repeat (first|refine blk_drewN ?_ _|refine blk_drew ?_|refine blk_alloc ?_ _));exact BK732.out),(by (with_reducible repeat (first|refine blk_drewN ?_ _|refine blk_drew ?_|refine blk_alloc ?_ _));exact BK746.out),GW746.out,GE746.out,NB731_746.out,NB746_731.out,NB732_746.out,NB746_732.out,(by repeat (first|(with_reducible first|exact HB.out|apply below_alloc|apply pw_below_drewN|apply below_drew1|refine below_set ?_ GE731.out|refine below_set ?_ GE732.out|refine below_set ?_ GE746.out)|exact HB.out))⟩)
    rintro ⟨v735,v738,v741,v744,gb746⟩ w21 ⟨hS_,h0_,h1_,h2_,h3_,h4_,h5_,h6_,h7_,h8_,h9_,h10_,h11_⟩
    have n0_ : Aside0 (Kd.R (Kd.int .i64) 3 w21 w.heap.size (fun k_ => some k_ ≠ (v744 : Value).ownBlock) v738 y737):=⟨h0_⟩
    have n1_ : Aside0 (Kd.R (Kd.int .i64) 3 w21 w.heap.size (fun k_ => some k_ ≠ (v738 : Value).ownBlock) v744 y743):=⟨h1_⟩
    have n2_ : Aside0 (w21.heap[gb731]? = some (.cells #[.slice A0_0 l0_0.length c0_0,.slice A0_1 l0_1.length c0_1,.slice A0_2 l0_2.length c0_2] 24 (0,0))):=⟨h2_⟩
    have n3_ : Aside0 (w21.heap[gb732]? = some (.cells #[.slice none 0 0,.slice none 0 0,.slice none 0 0] 24 (0,0))):=⟨h3_⟩
    have n4_ : Aside0 (w21.heap[gb746]? = some (.cells #[.slice none 0 0,.slice none 0 0,.slice none 0 0] 24 (0,0))):=⟨h4_⟩
    have n5_ : Aside0 (w.heap.size ≤ gb746):=⟨h5_⟩
    have n6_ : Aside0 (w.heap.size ≤ gb746):=⟨h6_⟩
    have n7_ : Aside0 (gb731 ≠ gb746):=⟨h7_⟩
    have n8_ : Aside0 (gb746 ≠ gb731):=⟨h8_⟩
    have n9_ : Aside0 (gb732 ≠ gb746):=⟨h9_⟩
    have n10_ : Aside0 (gb746 ≠ gb732):=⟨h10_⟩
    have n11_ : Aside0 (Below w.heap.size w w21):=⟨h11_⟩;clear BK731 BK732 HB h0_ h1_ h2_ h3_ h4_ h5_ h6_ h7_ h8_ h9_ h10_ h11_;have HO739:=n0_;have HO745:=n1_;have BK731:=n2_;have BK732:=n3_;have BK746:=n4_;have GW746:=n5_;have GE746:=n6_;have NB731_746:=n7_;have NB746_731:=n8_;have NB732_746:=n9_;have NB746_732:=n10_;have HB:=n11_;clear n0_ n1_ n2_ n3_ n4_ n5_ n6_ n7_ n8_ n9_ n10_ n11_
    have hHeld : w21.cell? ⟨gb731,0,none⟩ = some (.slice A0_0 l0_0.length c0_0) ∧ w21.cell? ⟨gb731,1,none⟩ = some (.slice A0_1 l0_1.length c0_1) ∧ w21.cell? ⟨gb731,2,none⟩ = some (.slice A0_2 l0_2.length c0_2):=hS_
    obtain ⟨Ao22,co22,eo22⟩:=Kd.R_slice HO745.out
    (first|subst eo22|(injection eo22 with f1_ f2_ f3_;have f4_:=f1_.symm;have f5_:=f3_.symm;clear f1_ f2_ f3_;subst f4_;subst f5_))
    obtain ⟨Ao23,co23,eo23⟩:=Kd.R_slice HO739.out
    (first|subst eo23|(injection eo23 with f1_ f2_ f3_;have f4_:=f1_.symm;have f5_:=f3_.symm;clear f1_ f2_ f3_;subst f4_;subst f5_))
    refine norm_ (a':=?_) ?_ ?_;rotate_left
    ·
     simp only [putAll,Act.put,List.setIfInBounds_toArray,List.set_cons_zero,List.set_cons_succ]
     rfl
    refine one_ (i:=10) (N:=none) #[true,true,true,true,true,true,true,true,true,true,true] rfl rfl (one_of HT_.out (by kernel_rfl)) (by decide) (fun K hK => ?_)
    have hs24 : w21.cell? ⟨gb746,0,none⟩ = some (.slice none 0 0):=(blk_cell BK746.out 0).trans rfl
    have hfs24:=blk_frozen BK746.out 0;have hns24_0:=NB731_746.out;have hns24_1:=NB732_746.out;have hms24_0:=NB746_731.out;have hms24_1:=NB746_732.out
    have hs25 : w21.cell? ⟨gb746,1,none⟩ = some (.slice none 0 0):=(blk_cell BK746.out 1).trans rfl
    have hfs25:=blk_frozen BK746.out 1;have hns25_0:=NB731_746.out;have hns25_1:=NB732_746.out;have hms25_0:=NB746_731.out;have hms25_1:=NB746_732.out
    have hs26 : w21.cell? ⟨gb746,2,none⟩ = some (.slice none 0 0):=(blk_cell BK746.out 2).trans rfl
    have hfs26:=blk_frozen BK746.out 2;have hns26_0:=NB731_746.out;have hns26_1:=NB732_746.out;have hms26_0:=NB746_731.out;have hms26_1:=NB746_732.out
    refine skip_ (w1:=?_) (by rfl) rfl ?_ ?_;rotate_left
    ·
     go_simp
     rfl
    refine hK.out _ _ ⟨((cell_far (p:=⟨gb746,_,none⟩) NB731_746.out _).trans (((cell_far (p:=⟨gb746,_,none⟩) NB731_746.out _).trans (((cell_far (p:=⟨gb746,_,none⟩) NB731_746.out _).trans (hHeld.1)))))),((cell_far (p:=⟨gb746,_,none⟩) NB731_746.out _).trans (((cell_far (p:=⟨gb746,_,none⟩) NB731_746.out _).trans (((cell_far (p:=⟨gb746,_,none⟩) NB731_746.out _).trans (hHeld.2.1)))))),((cell_far (p:=⟨gb746,_,none⟩) NB731_746.out _).trans (((cell_far (p:=⟨gb746,_,none⟩) NB731_746.out _).trans (((cell_far (p:=⟨gb746,_,none⟩) NB731_746.out _).trans (hHeld.2.2))))))⟩ (fun hHeld => ?_);clear hK K
    refine done_ (done_of HT_.out (by kernel_rfl)) ?_
    try go_wp2
    go_loopg [4] k (fun kq v4 w' => ∃ (x4_1 : Int) (x747002_1 : List Int) (u747002 : Value),v4 = .int .i64 x4_1 ∧ Aside0 (spec_MachineNot.l0 kq x4_1 l0_0 l0_1 l0_2 y737 y743 x747002_1 = some (r1,r2,r3)) ∧ Aside0 (kq ≤ k) ∧ Aside0 (Kd.R (Kd.int .i64) 3 w' w.heap.size (fun k_ => some k_ ≠ ((.slice Ao22 y743.length co22) : Value).ownBlock ∧ some k_ ≠ (u747002 : Value).ownBlock) (.slice Ao23 y737.length co23) y737) ∧ Aside0 (Kd.R (Kd.int .i64) 3 w' w.heap.size (fun k_ => some k_ ≠ ((.slice Ao23 y737.length co23) : Value).ownBlock ∧ some k_ ≠ (u747002 : Value).ownBlock) (.slice Ao22 y743.length co22) y743) ∧ Aside0 (Kd.R (Kd.int .i64) 3 w' w.heap.size (fun k_ => some k_ ≠ ((.slice Ao23 y737.length co23) : Value).ownBlock ∧ some k_ ≠ ((.slice Ao22 y743.length co22) : Value).ownBlock) u747002 x747002_1) ∧ Aside0 (w'.heap[gb731]? = some (.cells #[(.slice A0_0 l0_0.length c0_0),(.slice A0_1 l0_1.length c0_1),(.slice A0_2 l0_2.length c0_2)] 24 (0,0))) ∧ Aside0 (w'.heap[gb732]? = some (.cells #[(.slice none 0 0),(.slice none 0 0),(.slice none 0 0)] 24 (0,0))) ∧ Aside0 (w'.heap[gb746]? = some (.cells #[(.slice Ao23 y737.length co23),(.slice Ao22 y743.length co22),u747002] 24 (0,0))) ∧ Aside0 (Below w.heap.size w w'))
    case atStart => exact ⟨(0),(([] : List Int)),(.slice none 0 0),(by first|rfl|(simp;done)|(simp [*];done)),H',⟨Nat.le_refl _⟩,⟨by (with_reducible repeat (first|apply Kd.R_alloc|apply Kd.R_drewN|apply Kd.R_drew));exact Kd.R_mono (Kd.R_far (p:=⟨gb746,2,none⟩) (Kd.R_far (p:=⟨gb746,1,none⟩) (Kd.R_far (p:=⟨gb746,0,none⟩) (Kd.R_types HO739.out BK746.out (by decide)) (fun _ hk => hk.2) (.slice Ao23 y737.length co23)) (fun _ hk => hk.2) (.slice Ao22 y743.length co22)) (fun _ hk => hk.2) (.slice none 0 0)) (fun _ hk => ⟨hk.1,(by simp [Value.ownBlock])⟩)⟩,⟨by (with_reducible repeat (first|apply Kd.R_alloc|apply Kd.R_drewN|apply Kd.R_drew));exact Kd.R_mono (Kd.R_far (p:=⟨gb746,2,none⟩) (Kd.R_far (p:=⟨gb746,1,none⟩) (Kd.R_far (p:=⟨gb746,0,none⟩) (Kd.R_types HO745.out BK746.out (by decide)) (fun _ hk => hk.2) (.slice Ao23 y737.length co23)) (fun _ hk => hk.2) (.slice Ao22 y743.length co22)) (fun _ hk => hk.2) (.slice none 0 0)) (fun _ hk => ⟨hk.1,(by simp [Value.ownBlock])⟩)⟩,⟨by first|exact Kd.R_nil _ _ _ _ _|exact Kd.N_nil _ _ _ _ _|exact Kd.V_nil _ _ _ _ _|exact Kd.Q_nil _ _ _ _ _|exact Kd.S_nil _ _ _ _ _⟩,⟨by (with_reducible repeat (first|refine blk_drewN ?_ _|refine blk_drew ?_|refine blk_alloc ?_ _));refine blk_far ?_ NB731_746.out _;(with_reducible repeat (first|refine blk_drewN ?_ _|refine blk_drew ?_|refine blk_alloc ?_ _));refine blk_far ?_ NB731_746.out _;(with_reducible repeat (first|refine blk_drewN ?_ _|refine blk_drew ?_|refine blk_alloc ?_ _));refine blk_far ?_ NB731_746.out _;(with_reducible repeat (first|refine blk_drewN ?_ _|refine blk_drew ?_|refine blk_alloc ?_ _));exact BK731.out⟩,⟨by (with_reducible repeat (first|refine blk_drewN ?_ _|refine blk_drew ?_|refine blk_alloc ?_ _));refine blk_far ?_ NB732_746.out _;(with_reducible repeat (first|refine blk_drewN ?_ _|refine blk_drew ?_|refine blk_alloc ?_ _));refine blk_far ?_ NB732_746.out _;(with_reducible repeat (first|refine blk_drewN ?_ _|refine blk_drew ?_|refine blk_alloc ?_ _));refine blk_far ?_ NB732_746.out _;(with_reducible repeat (first|refine blk_drewN ?_ _|refine blk_drew ?_|refine blk_alloc ?_ _));exact BK732.out⟩,⟨by (with_reducible repeat (first|refine blk_drewN ?_ _|refine blk_drew ?_|refine blk_alloc ?_ _));refine blk_put (cs:=#[.slice Ao23 y737.length co23,.slice Ao22 y743.length co22,.slice none 0 0]) ?_ 2 _ rfl;(with_reducible repeat (first|refine blk_drewN ?_ _|refine blk_drew ?_|refine blk_alloc ?_ _));refine blk_put (cs:=#[.slice Ao23 y737.length co23,.slice none 0 0,.slice none 0 0]) ?_ 1 _ rfl;(with_reducible repeat (first|refine blk_drewN ?_ _|refine blk_drew ?_|refine blk_alloc ?_ _));refine blk_put (cs:=#[.slice none 0 0,.slice none 0 0,.slice none 0 0]) ?_ 0 _ rfl;(with_reducible repeat (first|refine blk_drewN ?_ _|refine blk_drew ?_|refine blk_alloc ?_ _));exact BK746.out⟩,⟨by repeat (first|(with_reducible first|exact HB.out|apply below_alloc|apply pw_below_drewN|apply below_drew1|refine below_set ?_ GE731.out|refine below_set ?_ GE732.out|refine below_set ?_ GE746.out)|exact HB.out)⟩⟩
    case round =>
     clear H'
     try clear p2
     try clear c4
     try clear c5
     obtain ⟨x4_1,x747002_1,u747002,rfl,HA,HK1,HO_747000,HO_747001,HO_747002,BK731,BK732,BK746,HB⟩:=hrel
     cases gk with
     | zero => exact absurd HA.out (by simp [spec_MachineNot.l0])
     | succ k1 =>
      have H:=HA.out;clear HA
      simp only [spec_MachineNot.l0] at H
      by_cases c27 : x4_1 < (l0_2.length : Int)
      ·
       rw [if_pos c27] at H
       have c27b0 : decide (x4_1 < (l0_2.length : Int)) = true:=decide_eq_true c27;clear c27
       by_cases c28 : 0 ≤ x4_1
       ·
        rw [if_pos c28] at H
        have c28b0 : decide (0 ≤ x4_1) = true:=decide_eq_true c28;clear c28
        by_cases c29 : x747002_1.length < 17592186044416
        ·
         rw [if_pos c29] at H
         have LMc29:=Aside0.mk c29;clear c29
         obtain ⟨y748,hy748⟩ : ∃ y_ : List Int,y_ = (x747002_1 ++ [wrap64 (1 - (rd l0_2 x4_1))]):=⟨_,rfl⟩
         replace H : (spec_MachineNot.l0 k1 (wrap64 (x4_1 + 1)) l0_0 l0_1 l0_2 y737 y743 y748) = some (r1,r2,r3):=by first|(rw [hy748];with_reducible exact H)|(have H2_:=(Option.bind_some _ _).symm.trans H;rw [hy748];with_reducible exact H2_)|(have H2_:=(Option.bind_some _ _).symm.trans H;with_reducible exact H2_)|with_reducible exact H|(rw [hy748];exact H)|exact H
         have Ny748:=Aside0.mk hy748;clear hy748
         have H':=Aside0.mk H;clear H;have hnb30:=NB731_732.out;have hnc30:=NB732_731.out;have hnb31:=NB731_746.out;have hnc31:=NB746_731.out
         have hcz32_0 : wr.cell? ⟨gb731,0,none⟩ = some (.slice A0_0 l0_0.length c0_0):=(blk_cell BK731.out 0).trans rfl
         have hcz32_1 : wr.cell? ⟨gb731,1,none⟩ = some (.slice A0_1 l0_1.length c0_1):=(blk_cell BK731.out 1).trans rfl
         have hcz32_2 : wr.cell? ⟨gb731,2,none⟩ = some (.slice A0_2 l0_2.length c0_2):=(blk_cell BK731.out 2).trans rfl
         have hfz32_0:=blk_frozen BK731.out 0
         have hfz32_1:=blk_frozen BK731.out 1
         have hfz32_2:=blk_frozen BK731.out 2
         try go_wp2
         have n0_:=Aside0.mk (Kd.R_drew HO_747000.out);have n1_:=Aside0.mk (Kd.R_drew HO_747001.out);have n2_:=Aside0.mk (Kd.R_drew HO_747002.out);have n3_:=Aside0.mk (blk_drew BK731.out);have n4_:=Aside0.mk (blk_drew BK732.out);have n5_:=Aside0.mk (blk_drew BK746.out);have n6_:=Aside0.mk (below_drew1 HB.out);clear HO_747000 HO_747001 HO_747002 BK731 BK732 BK746 HB;have HO_747000:=n0_;have HO_747001:=n1_;have HO_747002:=n2_;have BK731:=n3_;have BK732:=n4_;have BK746:=n5_;have HB:=n6_;clear n0_ n1_ n2_ n3_ n4_ n5_ n6_
         have p747 : 0 ≤ (x4_1 : Int):=of_decide_eq_true (by first|(with_reducible assumption)|assumption)
         have q747 : x4_1 < (l0_2.length : Int):=of_decide_eq_true (by first|(with_reducible assumption)|assumption)
         obtain ⟨ad747,e747,hx747_0⟩:=Kd.at_int HR0_2.out x4_1 p747 q747;have hw747_0:=hx747_0
         cases e747
         replace hx747_0:=(HB.out.cell (World.block_lt_of_cell? w _ hx747_0)).trans hx747_0
         replace p747:=eq_true p747
         replace q747:=eq_true q747
         refine start_ (n:=12) (S:=fun w' => w'.cell? ⟨gb746,0,none⟩ = some (.slice Ao23 y737.length co23) ∧ w'.cell? ⟨gb746,1,none⟩ = some (.slice Ao22 y743.length co22) ∧ w'.cell? ⟨gb746,2,none⟩ = some (u747002) ∧ w'.cell? ⟨gb731,0,none⟩ = some (.slice A0_0 l0_0.length c0_0) ∧ w'.cell? ⟨gb731,1,none⟩ = some (.slice A0_1 l0_1.length c0_1) ∧ w'.cell? ⟨gb731,2,none⟩ = some (.slice (some ad747) l0_2.length c0_2) ∧ w'.cell? (ad747.add (x4_1).toNat) = some (.int .i64 (rd l0_2 x4_1))) (ds:=[11]) #[false,false,false,false,false,false,false,false,false,false,false,false] (by kernel_rfl) rfl rfl ⟨(blk_cell BK746.out 0).trans rfl,(blk_cell BK746.out 1).trans rfl,(blk_cell BK746.out 2).trans rfl,(blk_cell BK731.out 0).trans rfl,(blk_cell BK731.out 1).trans rfl,(blk_cell BK731.out 2).trans rfl,((HB.out.cell (World.block_lt_of_cell? w _ hw747_0)).trans hw747_0)⟩ (fun hHeld => ?_);refine with_tabW spec_MachineNot.tab7 spec_MachineNot.bits7 (fun HT_ HW_ => ?_)
         generalize wr.drew = w33 at HO_747000 HO_747001 HO_747002 BK731 BK732 BK746 HB hx747_0 hHeld ⊢
         refine pure_ (i:=0) (N:=some 25) (v:=?_) (a':=?_) #[true,false,false,false,false,false,false,false,false,false,false,false] rfl rfl (any_of HT_.out (by kernel_rfl)) (fun _ _ _ h => h) (Or.inl ⟨by rfl,?_⟩) ?_ ?_;rotate_left
         ·
          intro w'
          go_simp
          with_reducible rfl
         rotate_left
         ·
          simp only [Act.put,List.setIfInBounds_toArray,List.set_cons_zero,List.set_cons_succ,i64_w,i32_w]
          rfl
         refine pure_ (i:=2) (N:=some 27) (v:=?_) (a':=?_) #[true,false,true,false,false,false,false,false,false,false,false,false] rfl rfl (any_of HT_.out (by kernel_rfl)) (fun _ _ _ h => h) (Or.inl ⟨by rfl,?_⟩) ?_ ?_;rotate_left
         ·
          intro w'
          go_simp
          with_reducible rfl
         rotate_left
         ·
          simp only [Act.put,List.setIfInBounds_toArray,List.set_cons_zero,List.set_cons_succ,i64_w,i32_w]
          rfl
         refine pure_ (i:=4) (N:=some 29) (v:=?_) (a':=?_) #[true,false,true,false,true,false,false,false,false,false,false,false] rfl rfl (any_of HT_.out (by kernel_rfl)) (fun _ _ _ h => h) (Or.inl ⟨by rfl,?_⟩) ?_ ?_;rotate_left
         ·
          intro w'
          go_simp
          with_reducible rfl
         rotate_left
         ·
          simp only [Act.put,List.setIfInBounds_toArray,List.set_cons_zero,List.set_cons_succ,i64_w,i32_w]
          rfl
         refine take_ (i:=1) (N:=some 26) (v:=?_) (a':=?_) #[true,true,true,false,true,false,false,false,false,false,false,false] rfl rfl (take_ofW HT_.out HW_.out (by kernel_rfl)) (fun _ _ _ h => h) (Or.inl ⟨by rfl,?_⟩) hHeld ?_ ?_;rotate_left
         ·
          rintro w' ⟨s0,s1,s2,s3,s4,s5,s6⟩
          go_simp
          with_reducible rfl
         rotate_left
         ·
          simp only [Act.put,List.setIfInBounds_toArray,List.set_cons_zero,List.set_cons_succ,i64_w,i32_w]
          rfl
         refine take_ (i:=3) (N:=some 28) (v:=?_) (a':=?_) #[true,true,true,true,true,false,false,false,false,false,false,false] rfl rfl (take_ofW HT_.out HW_.out (by kernel_rfl)) (fun _ _ _ h => h) (Or.inl ⟨by rfl,?_⟩) hHeld ?_ ?_;rotate_left
         ·
          rintro w' ⟨s0,s1,s2,s3,s4,s5,s6⟩
          go_simp
          with_reducible rfl
         rotate_left
         ·
          simp only [Act.put,List.setIfInBounds_toArray,List.set_cons_zero,List.set_cons_succ,i64_w,i32_w]
          rfl
         refine pure_ (i:=5) (N:=some 30) (v:=?_) (a':=?_) #[true,true,true,true,true,true,false,false,false,false,false,false] rfl rfl (any_of HT_.out (by kernel_rfl)) (fun _ _ _ h => h) (Or.inl ⟨by rfl,?_⟩) ?_ ?_;rotate_left
         ·
          intro w'
          go_simp
          with_reducible rfl
         rotate_left
         ·
          simp only [Act.put,List.setIfInBounds_toArray,List.set_cons_zero,List.set_cons_succ,i64_w,i32_w]
          rfl
         refine take_ (i:=6) (N:=some 31) (v:=?_) (a':=?_) #[true,true,true,true,true,true,true,false,false,false,false,false] rfl rfl (take_ofW HT_.out HW_.out (by kernel_rfl)) (fun _ _ _ h => h) (Or.inl ⟨by rfl,?_⟩) hHeld ?_ ?_;rotate_left
         ·
          rintro w' ⟨s0,s1,s2,s3,s4,s5,s6⟩
          go_simp
          with_reducible rfl
         rotate_left
         ·
          simp only [Act.put,List.setIfInBounds_toArray,List.set_cons_zero,List.set_cons_succ,i64_w,i32_w]
          rfl
         refine pure_ (i:=7) (N:=some 32) (v:=?_) (a':=?_) #[true,true,true,true,true,true,true,true,false,false,false,false] rfl rfl (any_of HT_.out (by kernel_rfl)) (fun _ _ _ h => h) (Or.inl ⟨by rfl,?_⟩) ?_ ?_;rotate_left
         ·
          intro w'
          go_simp
          with_reducible rfl
         rotate_left
         ·
          simp only [Act.put,List.setIfInBounds_toArray,List.set_cons_zero,List.set_cons_succ,i64_w,i32_w]
          rfl
         refine one_ (i:=8) (N:=some 33) #[true,true,true,true,true,true,true,true,true,false,false,false] rfl rfl (one_of HT_.out (by kernel_rfl)) (by decide) (fun K hK => ?_)
         refine value_ (w1:=?_) (v:=?_) (by rfl) rfl ?_ ?_
         rotate_left 2
         ·
          go_simp
          constructor
          ·
           rfl
          ·
           rfl
         refine hK.out _ _ ⟨(blk_cell (blk_alloc BK746.out _) 0).trans rfl,(blk_cell (blk_alloc BK746.out _) 1).trans rfl,(blk_cell (blk_alloc BK746.out _) 2).trans rfl,(blk_cell (blk_alloc BK731.out _) 0).trans rfl,(blk_cell (blk_alloc BK731.out _) 1).trans rfl,(blk_cell (blk_alloc BK731.out _) 2).trans rfl,(World.cell?_alloc_lt _ _ _ (World.block_lt_of_cell? _ _ (((HB.out.cell (World.block_lt_of_cell? w _ hw747_0)).trans hw747_0)))).trans (((HB.out.cell (World.block_lt_of_cell? w _ hw747_0)).trans hw747_0))⟩ (fun hHeld => ?_);clear hK K
         refine norm_ (a':=?_) ?_ ?_;rotate_left
         ·
          show Act.put _ (some 33) _ = _
          simp only [Act.put,List.setIfInBounds_toArray,List.set_cons_zero,List.set_cons_succ,i64_w,i32_w]
          rfl
         refine one_ (i:=9) (N:=some 34) #[true,true,true,true,true,true,true,true,true,true,false,false] rfl rfl (one_of HT_.out (by kernel_rfl)) (by decide) (fun K hK => ?_)
         refine Kd.R_append_step (Kd.int .i64) (w0:=w) w.heap.size (by rfl) (.tmp 26) (.tmp 33) 22 3 (.int .i64 0) 8 rfl Try.underlying22 info3 rfl (by decide) (by omega) u747002 x747002_1 (wrap64 (1 - (rd l0_2 x4_1))) [.int .i64 (wrap64 (1 - (rd l0_2 x4_1)))] (fun k_ => some k_ ≠ (.slice Ao23 y737.length co23 : Value).ownBlock ∧ some k_ ≠ (.slice Ao22 y743.length co22 : Value).ownBlock) (fun _ => False) rfl rfl ?aP (fun _ hk => hk.elim) ?aF ?aO ?aB ?aS ?aL ?_
         (case aP => exact rfl)
         (case aB => exact (by repeat (first|(with_reducible first|exact HB.out|apply below_alloc|apply pw_below_drewN|apply below_drew1|refine below_set ?_ GE731.out|refine below_set ?_ GE732.out|refine below_set ?_ GE746.out)|exact HB.out)))
         (case aF => exact (fun k_ hk => ⟨Kd.fresh' (Kd.R_lt (by (with_reducible repeat (first|apply Kd.R_alloc|apply Kd.R_drewN|apply Kd.R_drew));exact HO_747000.out)) k_ hk,Kd.fresh' (Kd.R_lt (by (with_reducible repeat (first|apply Kd.R_alloc|apply Kd.R_drewN|apply Kd.R_drew));exact HO_747001.out)) k_ hk⟩))
         (case aO => exact (by (with_reducible repeat (first|apply Kd.R_alloc|apply Kd.R_drewN|apply Kd.R_drew));exact HO_747002.out))
         (case aS => exact (below_size (by repeat (first|(with_reducible first|exact HB.out|apply below_alloc|apply pw_below_drewN|apply below_drew1|refine below_set ?_ GE731.out|refine below_set ?_ GE732.out|refine below_set ?_ GE746.out)|exact HB.out))))
         (case aL => have:=LMc29.out;omega);intro v749 w34 ho hb hg hat
         rw [← Ny748.out] at ho;have n0_:=Aside0.mk (Kd.R_after (ok:=(fun k_ => some k_ ≠ (.slice Ao22 y743.length co22 : Value).ownBlock)) (by (with_reducible repeat (first|apply Kd.R_alloc|apply Kd.R_drewN|apply Kd.R_drew));exact HO_747000.out) hg hat);have n1_:=Aside0.mk (Kd.R_after (ok:=(fun k_ => some k_ ≠ (.slice Ao23 y737.length co23 : Value).ownBlock)) (by (with_reducible repeat (first|apply Kd.R_alloc|apply Kd.R_drewN|apply Kd.R_drew));exact HO_747001.out) hg hat);have n2_:=Aside0.mk (blk_grown (g:=gb731) (o:=.cells #[.slice A0_0 l0_0.length c0_0,.slice A0_1 l0_1.length c0_1,.slice (some ad747) l0_2.length c0_2] 24 (0,0)) (by (with_reducible repeat (first|refine blk_drewN ?_ _|refine blk_drew ?_|refine blk_alloc ?_ _));exact BK731.out) hg (Kd.R_ne HO_747002.out BK731.out (by decide)));have n3_:=Aside0.mk (blk_grown (g:=gb732) (o:=.cells #[.slice none 0 0,.slice none 0 0,.slice none 0 0] 24 (0,0)) (by (with_reducible repeat (first|refine blk_drewN ?_ _|refine blk_drew ?_|refine blk_alloc ?_ _));exact BK732.out) hg (Kd.R_ne HO_747002.out BK732.out (by decide)));have n4_:=Aside0.mk (blk_grown (g:=gb746) (o:=.cells #[.slice Ao23 y737.length co23,.slice Ao22 y743.length co22,u747002] 24 (0,0)) (by (with_reducible repeat (first|refine blk_drewN ?_ _|refine blk_drew ?_|refine blk_alloc ?_ _));exact BK746.out) hg (Kd.R_ne HO_747002.out BK746.out (by decide)));have n5_:=Aside0.mk (hb);have n6_:=Aside0.mk (ho)
         clear HO_747000 HO_747001 BK731 BK732 BK746 HB HO_747002;have HO_747000:=n0_;have HO_747001:=n1_;have BK731:=n2_;have BK732:=n3_;have BK746:=n4_;have HB:=n5_;have HO750:=n6_;clear n0_ n1_ n2_ n3_ n4_ n5_ n6_ ho hb hg hat
         obtain ⟨Ao35,co35,eo35⟩:=Kd.R_slice HO750.out
         (first|subst eo35|(injection eo35 with f1_ f2_ f3_;have f4_:=f1_.symm;have f5_:=f3_.symm;clear f1_ f2_ f3_;subst f4_;subst f5_))
         refine hK.out _ _ ⟨(blk_cell BK746.out 0).trans rfl,(blk_cell BK746.out 1).trans rfl,(blk_cell BK746.out 2).trans rfl,(blk_cell BK731.out 0).trans rfl,(blk_cell BK731.out 1).trans rfl,(blk_cell BK731.out 2).trans rfl,((HB.out.cell (World.block_lt_of_cell? w _ hw747_0)).trans hw747_0)⟩ (fun hHeld => ?_);clear hK K
         refine norm_ (a':=?_) ?_ ?_;rotate_left
         ·
          show Act.put _ (some 34) _ = _
          simp only [Act.put,List.setIfInBounds_toArray,List.set_cons_zero,List.set_cons_succ,i64_w,i32_w]
          rfl
         refine pure_ (i:=10) (N:=some 35) (v:=?_) (a':=?_) #[true,true,true,true,true,true,true,true,true,true,true,false] rfl rfl (any_of HT_.out (by kernel_rfl)) (fun _ _ _ h => h) (Or.inl ⟨by rfl,?_⟩) ?_ ?_;rotate_left
         ·
          intro w'
          go_simp
          with_reducible rfl
         rotate_left
         ·
          simp only [Act.put,List.setIfInBounds_toArray,List.set_cons_zero,List.set_cons_succ,i64_w,i32_w]
          rfl
         refine last_ (i:=11) (N:=none) #[true,true,true,true,true,true,true,true,true,true,true,true] rfl rfl (one_of HT_.out (by kernel_rfl)) (by decide) (fun K hK => ?_)
         have hs36 : w34.cell? ⟨gb746,2,none⟩ = some (u747002):=(blk_cell BK746.out 2).trans rfl
         have hfs36:=blk_frozen BK746.out 2;have hns36_0:=NB731_746.out;have hns36_1:=NB732_746.out;have hms36_0:=NB746_731.out;have hms36_1:=NB746_732.out
         refine skip_ (w1:=?_) (by rfl) rfl ?_ ?_;rotate_left
         ·
          go_simp
          rfl
         refine hK.out _ _ ?_;clear hK K
         refine done_ (done_of HT_.out (by kernel_rfl)) ?_
         try go_wp2
         go_roundg k1
         case measure => have:=HK1.out;omega
         case rel => exact ⟨(wrap64 (x4_1 + 1)),(y748),(.slice Ao35 y748.length co35),(by first|rfl|(simp;done)|(simp [*];done)),H',⟨by have:=HK1.out;omega⟩,⟨by (with_reducible repeat (first|apply Kd.R_alloc|apply Kd.R_drewN|apply Kd.R_drew));exact Kd.R_mono (Kd.R_far (p:=⟨gb746,2,none⟩) (Kd.R_types HO_747000.out BK746.out (by decide)) (fun _ hk => hk.2) (.slice Ao35 y748.length co35)) (fun _ hk => ⟨hk.1.1,hk.1.2⟩)⟩,⟨by (with_reducible repeat (first|apply Kd.R_alloc|apply Kd.R_drewN|apply Kd.R_drew));exact Kd.R_mono (Kd.R_far (p:=⟨gb746,2,none⟩) (Kd.R_types HO_747001.out BK746.out (by decide)) (fun _ hk => hk.2) (.slice Ao35 y748.length co35)) (fun _ hk => ⟨hk.1.1,hk.1.2⟩)⟩,⟨by (with_reducible repeat (first|apply Kd.R_alloc|apply Kd.R_drewN|apply Kd.R_drew));exact Kd.R_mono (Kd.R_far (p:=⟨gb746,2,none⟩) (Kd.R_types HO750.out BK746.out (by decide)) (fun _ hk => hk.2) (.slice Ao35 y748.length co35)) (fun _ hk => ⟨hk.1.1,hk.1.2⟩)⟩,⟨by (with_reducible repeat (first|refine blk_drewN ?_ _|refine blk_drew ?_|refine blk_alloc ?_ _));refine blk_far ?_ NB731_746.out _;(with_reducible repeat (first|refine blk_drewN ?_ _|refine blk_drew ?_|refine blk_alloc ?_ _));exact BK731.out⟩,⟨by (with_reducible repeat (first|refine blk_drewN ?_ _|refine blk_drew ?_|refine blk_alloc ?_ _));refine blk_far ?_ NB732_746.out _;(with_reducible repeat (first|refine blk_drewN ?_ _|refine blk_drew ?_|refine blk_alloc ?_ _));exact BK732.out⟩,⟨by (with_reducible repeat (first|refine blk_drewN ?_ _|refine blk_drew ?_|refine blk_alloc ?_ _));refine blk_put (cs:=#[.slice Ao23 y737.length co23,.slice Ao22 y743.length co22,u747002]) ?_ 2 _ rfl;(with_reducible repeat (first|refine blk_drewN ?_ _|refine blk_drew ?_|refine blk_alloc ?_ _));exact BK746.out⟩,⟨by repeat (first|(with_reducible first|exact HB.out|apply below_alloc|apply pw_below_drewN|apply below_drew1|refine below_set ?_ GE731.out|refine below_set ?_ GE732.out|refine below_set ?_ GE746.out)|exact HB.out)⟩⟩
        ·
         rw [if_neg c29] at H
         exact absurd H (by simp)
       ·
        rw [if_neg c28] at H
        exact absurd H (by simp)
      ·
       rw [if_neg c27] at H
       have c27b0 : decide (x4_1 < (l0_2.length : Int)) = false:=decide_eq_false c27;clear c27
       simp only [Option.some.injEq,Prod.mk.injEq] at H
       obtain ⟨rfl,rfl,rfl⟩:=H;have hnb37:=NB731_732.out;have hnc37:=NB732_731.out;have hnb38:=NB731_746.out;have hnc38:=NB746_731.out
       have hcz39_0 : wr.cell? ⟨gb731,0,none⟩ = some (.slice A0_0 l0_0.length c0_0):=(blk_cell BK731.out 0).trans rfl
       have hcz39_1 : wr.cell? ⟨gb731,1,none⟩ = some (.slice A0_1 l0_1.length c0_1):=(blk_cell BK731.out 1).trans rfl
       have hcz39_2 : wr.cell? ⟨gb731,2,none⟩ = some (.slice A0_2 l0_2.length c0_2):=(blk_cell BK731.out 2).trans rfl
       have hfz39_0:=blk_frozen BK731.out 0
       have hfz39_1:=blk_frozen BK731.out 1
       have hfz39_2:=blk_frozen BK731.out 2;have hnb40:=NB746_732.out;have hnc40:=NB732_746.out
       have hcz41_0 : wr.cell? ⟨gb746,0,none⟩ = some (.slice Ao23 y737.length co23):=(blk_cell BK746.out 0).trans rfl
       have hcz41_1 : wr.cell? ⟨gb746,1,none⟩ = some (.slice Ao22 y743.length co22):=(blk_cell BK746.out 1).trans rfl
       have hcz41_2 : wr.cell? ⟨gb746,2,none⟩ = some (u747002):=(blk_cell BK746.out 2).trans rfl
       have hfz41_0:=blk_frozen BK746.out 0
       have hfz41_1:=blk_frozen BK746.out 1
       have hfz41_2:=blk_frozen BK746.out 2
       have hcz42_0 : wr.cell? ⟨gb732,0,none⟩ = some (.slice none 0 0):=(blk_cell BK732.out 0).trans rfl
       have hcz42_1 : wr.cell? ⟨gb732,1,none⟩ = some (.slice none 0 0):=(blk_cell BK732.out 1).trans rfl
       have hcz42_2 : wr.cell? ⟨gb732,2,none⟩ = some (.slice none 0 0):=(blk_cell BK732.out 2).trans rfl
       have hfz42_0:=blk_frozen BK732.out 0
       have hfz42_1:=blk_frozen BK732.out 1
       have hfz42_2:=blk_frozen BK732.out 2
       obtain ⟨Ao43,co43,eo43⟩:=Kd.R_slice HO_747002.out;subst eo43
       go_wp2
       refine bodyPost_ret (results_cell_row rfl _ _ gb732 24 #[.slice Ao23 y737.length co23,.slice Ao22 y743.length co22,.slice Ao43 x747002_1.length co43] (0,0) _ rfl (by (with_reducible repeat (first|refine blk_drewN ?_ _|refine blk_drew ?_|refine blk_alloc ?_ _));refine blk_put (cs:=#[.slice Ao23 y737.length co23,.slice Ao22 y743.length co22,.slice none 0 0]) ?_ 2 _ rfl;(with_reducible repeat (first|refine blk_drewN ?_ _|refine blk_drew ?_|refine blk_alloc ?_ _));refine blk_put (cs:=#[.slice Ao23 y737.length co23,.slice none 0 0,.slice none 0 0]) ?_ 1 _ rfl;(with_reducible repeat (first|refine blk_drewN ?_ _|refine blk_drew ?_|refine blk_alloc ?_ _));refine blk_put (cs:=#[.slice none 0 0,.slice none 0 0,.slice none 0 0]) ?_ 0 _ rfl;(with_reducible repeat (first|refine blk_drewN ?_ _|refine blk_drew ?_|refine blk_alloc ?_ _));exact BK732.out) Try.underlying24 rfl (by kernel_rfl)) rfl ?_
       exact ⟨_,_,_,by first|rfl|(simp [errW_none,errW_some] <;> rfl)|(simp [*,errW_none,errW_some] <;> rfl),by (with_reducible repeat (first|apply Kd.R_alloc|apply Kd.R_drewN|apply Kd.R_drew));exact Kd.R_mono (Kd.R_far (p:=⟨gb732,2,none⟩) (Kd.R_far (p:=⟨gb732,1,none⟩) (Kd.R_far (p:=⟨gb732,0,none⟩) (Kd.R_types HO_747000.out BK732.out (by decide)) (fun _ hk => hk.2) (.slice Ao23 y737.length co23)) (fun _ hk => hk.2) (.slice Ao22 y743.length co22)) (fun _ hk => hk.2) (.slice Ao43 x747002_1.length co43)) (fun _ hk => ⟨hk.1.1,hk.1.2⟩),by (with_reducible repeat (first|apply Kd.R_alloc|apply Kd.R_drewN|apply Kd.R_drew));exact Kd.R_mono (Kd.R_far (p:=⟨gb732,2,none⟩) (Kd.R_far (p:=⟨gb732,1,none⟩) (Kd.R_far (p:=⟨gb732,0,none⟩) (Kd.R_types HO_747001.out BK732.out (by decide)) (fun _ hk => hk.2) (.slice Ao23 y737.length co23)) (fun _ hk => hk.2) (.slice Ao22 y743.length co22)) (fun _ hk => hk.2) (.slice Ao43 x747002_1.length co43)) (fun _ hk => ⟨hk.1.1,hk.1.2⟩),by (with_reducible repeat (first|apply Kd.R_alloc|apply Kd.R_drewN|apply Kd.R_drew));exact Kd.R_mono (Kd.R_far (p:=⟨gb732,2,none⟩) (Kd.R_far (p:=⟨gb732,1,none⟩) (Kd.R_far (p:=⟨gb732,0,none⟩) (Kd.R_types HO_747002.out BK732.out (by decide)) (fun _ hk => hk.2) (.slice Ao23 y737.length co23)) (fun _ hk => hk.2) (.slice Ao22 y743.length co22)) (fun _ hk => hk.2) (.slice Ao43 x747002_1.length co43)) (fun _ hk => ⟨hk.1.1,hk.1.2⟩),by repeat (first|(with_reducible first|exact HB.out|apply below_alloc|apply pw_below_drewN|apply below_drew1|refine below_set ?_ GE731.out|refine below_set ?_ GE732.out|refine below_set ?_ GE746.out)|exact HB.out)⟩
   ·
    rw [if_neg c5] at H
    exact absurd H (by simp)
  ·
   rw [if_neg c4] at H
   exact absurd H (by simp)
 ·
  replace c3:=Bool.eq_false_iff.mpr c3;subst c3
  have H1 : (some (([] : List Int),([] : List Int),([] : List Int))) = some (r1,r2,r3):=by rw [if_neg (show ¬ (false = true) by decide)] at H;exact H
  clear H;have H:=H1;clear H1
  simp only [Option.some.injEq,Prod.mk.injEq] at H
  obtain ⟨rfl,rfl,rfl⟩:=H
  go_enter Try.func24,Try.ntmps24
  go_wp2_with (first|((with_reducible refine gate_dst (N:=1) rfl ?_);refine box_event ?hg (N:=1) ?hd (cs:=#[.slice A0_0 l0_0.length c0_0,.slice A0_1 l0_1.length c0_1,.slice A0_2 l0_2.length c0_2]) (t:=24) ?hr ?_;(case hd => rfl);(case hg => rfl);(case hr => first|(go_simp;done)|(go_simp;rfl));intro gb731 hg w44 hbox hb;have n0_:=Aside0.mk (below_step (by repeat (first|(with_reducible first|exact HB.out|apply below_alloc|apply pw_below_drewN|apply below_drew1)|exact HB.out)) hb);have n1_:=Aside0.mk (hbox);have n2_:=Aside0.mk ((by rw [hg];exact (below_size (by repeat (first|(with_reducible first|exact HB.out|apply below_alloc|apply pw_below_drewN|apply below_drew1)|exact HB.out))) : w.heap.size ≤ gb731));have n3_:=Aside0.mk ((by rw [hg];exact (below_size (by repeat (first|(with_reducible first|exact HB.out|apply below_alloc|apply pw_below_drewN|apply below_drew1)|exact HB.out))) : w.heap.size ≤ gb731));clear HB;have HB:=n0_;have BK731:=n1_;have GW731:=n2_;have GE731:=n3_;clear n0_ n1_ n2_ n3_ hb hbox hg)|((with_reducible refine gate_dst (N:=2) rfl ?_);refine box_event ?hg (N:=2) ?hd (cs:=#[.slice none 0 0,.slice none 0 0,.slice none 0 0]) (t:=24) ?hr ?_;(case hd => rfl);(case hg => rfl);(case hr => first|(go_simp;done)|(go_simp;rfl));intro gb732 hg w45 hbox hb;have n0_:=Aside0.mk (blk_below (g:=gb731) (o:=.cells #[.slice A0_0 l0_0.length c0_0,.slice A0_1 l0_1.length c0_1,.slice A0_2 l0_2.length c0_2] 24 (0,0)) (by (with_reducible repeat (first|refine blk_drewN ?_ _|refine blk_drew ?_|refine blk_alloc ?_ _));exact BK731.out) hb);have n1_:=Aside0.mk (below_step (by repeat (first|(with_reducible first|exact HB.out|apply below_alloc|apply pw_below_drewN|apply below_drew1|refine below_set ?_ GE731.out)|exact HB.out)) hb);have n2_:=Aside0.mk (hbox);have n3_:=Aside0.mk ((by rw [hg];exact (below_size (by repeat (first|(with_reducible first|exact HB.out|apply below_alloc|apply pw_below_drewN|apply below_drew1|refine below_set ?_ GE731.out)|exact HB.out))) : w.heap.size ≤ gb732));have n4_:=Aside0.mk ((by rw [hg];exact (below_size (by repeat (first|(with_reducible first|exact HB.out|apply below_alloc|apply pw_below_drewN|apply below_drew1|refine below_set ?_ GE731.out)|exact HB.out))) : w.heap.size ≤ gb732));have n5_:=Aside0.mk ((by rw [hg];exact Nat.ne_of_lt (blk_lt (g:=gb731) (o:=.cells #[.slice A0_0 l0_0.length c0_0,.slice A0_1 l0_1.length c0_1,.slice A0_2 l0_2.length c0_2] 24 (0,0)) (by (with_reducible repeat (first|refine blk_drewN ?_ _|refine blk_drew ?_|refine blk_alloc ?_ _));exact BK731.out)) : gb731 ≠ gb732));have n6_:=Aside0.mk ((by rw [hg];exact Nat.ne_of_gt (blk_lt (g:=gb731) (o:=.cells #[.slice A0_0 l0_0.length c0_0,.slice A0_1 l0_1.length c0_1,.slice A0_2 l0_2.length c0_2] 24 (0,0)) (by (with_reducible repeat (first|refine blk_drewN ?_ _|refine blk_drew ?_|refine blk_alloc ?_ _));exact BK731.out)) : gb732 ≠ gb731));clear BK731 HB;have BK731:=n0_;have HB:=n1_;have BK732:=n2_;have GW732:=n3_;have GE732:=n4_;have NB731_732:=n5_;have NB732_731:=n6_;clear n0_ n1_ n2_ n3_ n4_ n5_ n6_ hb hbox hg;have hnb46:=NB731_732.out;have hnc46:=NB732_731.out;have hcz47_0 : w45.cell? ⟨gb731,0,none⟩ = some (.slice A0_0 l0_0.length c0_0):=(blk_cell BK731.out 0).trans rfl;have hcz47_1 : w45.cell? ⟨gb731,1,none⟩ = some (.slice A0_1 l0_1.length c0_1):=(blk_cell BK731.out 1).trans rfl;have hcz47_2 : w45.cell? ⟨gb731,2,none⟩ = some (.slice A0_2 l0_2.length c0_2):=(blk_cell BK731.out 2).trans rfl;have hfz47_0:=blk_frozen BK731.out 0;have hfz47_1:=blk_frozen BK731.out 1;have hfz47_2:=blk_frozen BK731.out 2)|((with_reducible refine gate_callee (f:=19) rfl ?_);refine goesL_ (some 6) rfl rfl Try.func19 (by kernel_rfl) rfl #[.agg #[.slice A0_0 l0_0.length c0_0,.slice A0_1 l0_1.length c0_1,.slice A0_2 l0_2.length c0_2]] rfl (by (try simp only [List.map_toArray,List.map_cons,List.map_nil]);first|done|rfl|(simp only [List.length_drop,List.length_take];rfl)) ?_;(with_reducible refine (spec_MachineOk.calls k _ _ l0_0 _ _ l0_1 _ _ l0_2 false _ ?side1 ?side2 ?side3 ?side4 ?side5 ?side6 A2.out).mono ?_);(case side1 => repeat (first|exact (Kd.C_below HR0_0.out HB.out)|(with_reducible refine Kd.C_alloc ?_ _)|(with_reducible refine Kd.C_drewN ?_ _)|(with_reducible refine Kd.C_drew ?_)));(case side2 => exact HC0_0.out);(case side3 => repeat (first|exact (Kd.C_below HR0_1.out HB.out)|(with_reducible refine Kd.C_alloc ?_ _)|(with_reducible refine Kd.C_drewN ?_ _)|(with_reducible refine Kd.C_drew ?_)));(case side4 => exact HC0_1.out);(case side5 => repeat (first|exact (Kd.C_below HR0_2.out HB.out)|(with_reducible refine Kd.C_alloc ?_ _)|(with_reducible refine Kd.C_drewN ?_ _)|(with_reducible refine Kd.C_drew ?_)));(case side6 => exact HC0_2.out);rintro e w48 ⟨rfl,hb⟩;refine ⟨_,rfl,?_⟩;have n0_:=Aside0.mk (blk_below (g:=gb731) (o:=.cells #[.slice A0_0 l0_0.length c0_0,.slice A0_1 l0_1.length c0_1,.slice A0_2 l0_2.length c0_2] 24 (0,0)) (by (with_reducible repeat (first|refine blk_drewN ?_ _|refine blk_drew ?_|refine blk_alloc ?_ _));exact BK731.out) hb);have n1_:=Aside0.mk (blk_below (g:=gb732) (o:=.cells #[.slice none 0 0,.slice none 0 0,.slice none 0 0] 24 (0,0)) (by (with_reducible repeat (first|refine blk_drewN ?_ _|refine blk_drew ?_|refine blk_alloc ?_ _));exact BK732.out) hb);have n2_:=Aside0.mk (below_step (by repeat (first|(with_reducible first|exact HB.out|apply below_alloc|apply pw_below_drewN|apply below_drew1|refine below_set ?_ GE731.out|refine below_set ?_ GE732.out)|exact HB.out)) hb);clear BK731 BK732 HB;have BK731:=n0_;have BK732:=n1_;have HB:=n2_;clear n0_ n1_ n2_;(try clear hb);(try clear hb2);(try clear hk);(try clear hi);have hcz49_0 : w48.cell? ⟨gb732,0,none⟩ = some (.slice none 0 0):=(blk_cell BK732.out 0).trans rfl;have hcz49_1 : w48.cell? ⟨gb732,1,none⟩ = some (.slice none 0 0):=(blk_cell BK732.out 1).trans rfl;have hcz49_2 : w48.cell? ⟨gb732,2,none⟩ = some (.slice none 0 0):=(blk_cell BK732.out 2).trans rfl;have hfz49_0:=blk_frozen BK732.out 0;have hfz49_1:=blk_frozen BK732.out 1;have hfz49_2:=blk_frozen BK732.out 2))
  refine bodyPost_ret (results_cell_row rfl _ _ gb732 24 #[.slice none 0 0,.slice none 0 0,.slice none 0 0] (0,0) _ rfl (by (with_reducible repeat (first|refine blk_drewN ?_ _|refine blk_drew ?_|refine blk_alloc ?_ _));refine blk_put (cs:=#[.slice none 0 0,.slice none 0 0,.slice none 0 0]) ?_ 2 _ rfl;(with_reducible repeat (first|refine blk_drewN ?_ _|refine blk_drew ?_|refine blk_alloc ?_ _));refine blk_put (cs:=#[.slice none 0 0,.slice none 0 0,.slice none 0 0]) ?_ 1 _ rfl;(with_reducible repeat (first|refine blk_drewN ?_ _|refine blk_drew ?_|refine blk_alloc ?_ _));refine blk_put (cs:=#[.slice none 0 0,.slice none 0 0,.slice none 0 0]) ?_ 0 _ rfl;(with_reducible repeat (first|refine blk_drewN ?_ _|refine blk_drew ?_|refine blk_alloc ?_ _));exact BK732.out) Try.underlying24 rfl (by kernel_rfl)) rfl ?_
  exact ⟨_,_,_,by first|rfl|(simp [errW_none,errW_some] <;> rfl)|(simp [*,errW_none,errW_some] <;> rfl),by first|exact Kd.R_nil _ _ _ _ _|exact Kd.N_nil _ _ _ _ _|exact Kd.V_nil _ _ _ _ _|exact Kd.Q_nil _ _ _ _ _|exact Kd.S_nil _ _ _ _ _,by first|exact Kd.R_nil _ _ _ _ _|exact Kd.N_nil _ _ _ _ _|exact Kd.V_nil _ _ _ _ _|exact Kd.Q_nil _ _ _ _ _|exact Kd.S_nil _ _ _ _ _,by first|exact Kd.R_nil _ _ _ _ _|exact Kd.N_nil _ _ _ _ _|exact Kd.V_nil _ _ _ _ _|exact Kd.Q_nil _ _ _ _ _|exact Kd.S_nil _ _ _ _ _,by repeat (first|(with_reducible first|exact HB.out|apply below_alloc|apply pw_below_drewN|apply below_drew1|refine below_set ?_ GE731.out|refine below_set ?_ GE732.out)|exact HB.out)⟩

end Go.Proofs.Ytgaapfldimokpaa.PA
