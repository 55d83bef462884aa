/- The machine side of functions of this seat, written by the session's program myprint.py: for each Go function a Lean function and the proof that the call answers just it. -/
import Derived.Test.YtiplbleghaoehaaPAx0
import Derived.Test.YtiplbleghaoehaaUp
import Derived.Test.YtiplbleghaoehaaPAx12
namespace Go.Proofs.Ytiplbleghaoehaa.PA
open Go.RowKit Go.Proofs.YtiplbleghaoehaaW.PrintWords Go.Proofs.YtiplbleghaoehaaW.PrintLast Go.Proofs.YtiplbleghaoehaaW.PrintMore
attribute [local go_sem] max2_int min2_int max_two min_two max_three min_three max_four min_four   -- for this text's walks alone
set_option linter.unusedVariables false
set_option linter.unusedSimpArgs false

/-! ### impl_MachineNot: function 17 -/
def impl_MachineNot.l0 : Nat → List Int → Int → Int → List Int → List Int → List Int → Option (List Int × List Int × List Int)
 | 0,_,_,_,_,_,_ => none
 | k + 1,x20,x21,x22,x571000,x571001,x571002 => if x22 < x21 then (if 0 ≤ x22 then (if x22 < (x20.length : Int) then (if x571002.length < 17592186044416 then (impl_MachineNot.l0 k x20 x21 (wrap64 (x22 + 1)) x571000 x571001 (x571002 ++ [wrap64 (1 - (rd x20 x22))])) else (none)) else (none)) else (none)) else (some (x571000,x571001,x571002))
def impl_MachineNot.f (k : Nat) (l0_0 : List Int) (l0_1 : List Int) (l0_2 : List Int) : Option (List Int × List Int × List Int):=(impl_isMachine.f k l0_0 l0_1 l0_2).bind fun t557 => (if t557 = true then ((some (([] : List Int) : List Int)).bind fun y558 => (if y558.length + l0_0.length < 17592186044416 then ((some (([] : List Int) : List Int)).bind fun y564 => (if y564.length + l0_1.length < 17592186044416 then (impl_MachineNot.l0 k l0_2 (l0_2.length : Int) 0 (y558 ++ l0_0) (y564 ++ l0_1) ([] : List Int)) else (none))) else (none))) else (some (([] : List Int),([] : List Int),([] : List Int))))
theorem impl_MachineNot.mono_l : ∀ k,(∀ y0 y1 y2 y3 y4 y5,LeO (impl_MachineNot.l0 k y0 y1 y2 y3 y4 y5) (impl_MachineNot.l0 (k + 1) y0 y1 y2 y3 y4 y5))
 | 0 => fun _ _ _ _ _ _ r h => by simp [impl_MachineNot.l0] at h
 | k + 1 => by
  have ih0:=impl_MachineNot.mono_l k
  ·
   intro y0 y1 y2 y3 y4 y5
   unfold impl_MachineNot.l0
   repeat' first
   | (with_reducible exact ih0 _ _ _ _ _ _)
   | (with_reducible exact impl_isMachine.mono _ _ _ _)
   | (with_reducible exact LeO.refl _)
   | (with_reducible exact LeO.none _)
   | (with_reducible refine LeO.ite ?_ ?_)
   | (with_reducible refine LeO.bind ?_ (fun _ => ?_))
   | exact ih0 _ _ _ _ _ _
   | exact impl_isMachine.mono _ _ _ _
   | exact LeO.none _
   | refine LeO.ite ?_ ?_
   | refine LeO.bind ?_ (fun _ => ?_)
theorem impl_MachineNot.mono : ∀ a0 a1 a2 k,LeO (impl_MachineNot.f k a0 a1 a2) (impl_MachineNot.f (k + 1) a0 a1 a2):=by
 intro a0 a1 a2 k
 have ih0:=impl_MachineNot.mono_l k
 unfold impl_MachineNot.f
 repeat' first
   | (with_reducible exact ih0 _ _ _ _ _ _)
   | (with_reducible exact impl_isMachine.mono _ _ _ _)
   | (with_reducible exact LeO.refl _)
   | (with_reducible exact LeO.none _)
   | (with_reducible refine LeO.ite ?_ ?_)
   | (with_reducible refine LeO.bind ?_ (fun _ => ?_))
   | exact ih0 _ _ _ _ _ _
   | exact impl_isMachine.mono _ _ _ _
   | exact LeO.none _
   | refine LeO.ite ?_ ?_
   | refine LeO.bind ?_ (fun _ => ?_)
def impl_MachineNot.T3 : Bool × List (List Nat × List Nat):=(true,[([],[]),([],[]),([1],[1]),([0,2],[0,2]),([],[]),([],[]),([5],[5]),([4,6,3],[4,6]),([3,7],[3,7]),([],[]),([9,8,7,0,1,2,3,4,5,6,7,8,9],[8,9])])
def impl_MachineNot.B3 : List Nat:=[0,0,2,7,0,0,32,127,255,0,1023]
theorem impl_MachineNot.tab3 : rtab .any (opsOf Try.f17 3) = impl_MachineNot.T3:=by kernel_rfl
theorem impl_MachineNot.bits3 : waitsOk impl_MachineNot.T3.2 impl_MachineNot.B3 = true:=by kernel_rfl
set_option maxHeartbeats 8000000 in
set_option maxRecDepth 100000 in
theorem impl_MachineNot.calls (k : Nat) (A0_0 : Option Addr) (c0_0 : Nat) (l0_0 : List Int) (A0_1 : Option Addr) (c0_1 : Nat) (l0_1 : List Int) (A0_2 : Option Addr) (c0_2 : Nat) (l0_2 : List Int) (r1 : List Int) (r2 : List Int) (r3 : List Int) (w : World) (hr0_0 : Kd.C (Kd.int .i64) w A0_0 l0_0.length l0_0) (hc0_0 : l0_0.length ≤ c0_0) (hr0_1 : Kd.C (Kd.int .i64) w A0_1 l0_1.length l0_1) (hc0_1 : l0_1.length ≤ c0_1) (hr0_2 : Kd.C (Kd.int .i64) w A0_2 l0_2.length l0_2) (hc0_2 : l0_2.length ≤ c0_2) (h : impl_MachineNot.f k l0_0 l0_1 l0_2 = some (r1,r2,r3)) :
  Calls Try.prog 17 #[.agg #[.slice A0_0 l0_0.length c0_0,.slice A0_1 l0_1.length c0_1,.slice A0_2 l0_2.length c0_2]] w fun e w' => ∃ v0_ v1_ v2_ : Value,e = .returned (.agg #[v0_,v1_,v2_]) ∧ Kd.R (Kd.int .i64) 3 w' w.heap.size (fun k_ => some k_ ≠ (v1_ : Value).ownBlock ∧ some k_ ≠ (v2_ : Value).ownBlock) v0_ r1 ∧ Kd.R (Kd.int .i64) 3 w' w.heap.size (fun k_ => some k_ ≠ (v0_ : Value).ownBlock ∧ some k_ ≠ (v2_ : Value).ownBlock) v1_ r2 ∧ Kd.R (Kd.int .i64) 3 w' w.heap.size (fun k_ => some k_ ≠ (v0_ : Value).ownBlock ∧ some k_ ≠ (v1_ : Value).ownBlock) v2_ r3 ∧ Below w.heap.size w w':=by
 have hu26:=Try.underlying26
 have HR0_0:=Aside0.mk hr0_0
 have HC0_0:=Aside0.mk hc0_0;clear hr0_0 hc0_0
 have HR0_1:=Aside0.mk hr0_1
 have HC0_1:=Aside0.mk hc0_1;clear hr0_1 hc0_1
 have HR0_2:=Aside0.mk hr0_2
 have HC0_2:=Aside0.mk hc0_2;clear hr0_2 hc0_2;have HB:=Aside0.mk (Below.refl w.heap.size w)
 have H : ((impl_isMachine.f k l0_0 l0_1 l0_2).bind fun t557 => (if t557 = true then ((some (([] : List Int) : List Int)).bind fun y558 => (if y558.length + l0_0.length < 17592186044416 then ((some (([] : List Int) : List Int)).bind fun y564 => (if y564.length + l0_1.length < 17592186044416 then (impl_MachineNot.l0 k l0_2 (l0_2.length : Int) 0 (y558 ++ l0_0) (y564 ++ l0_1) ([] : List Int)) else (none))) else (none))) else (some (([] : List Int),([] : List Int),([] : List Int))))) = some (r1,r2,r3):=h;clear h
 replace H:=Option.bind_eq_some_iff.mp H
 obtain ⟨t557,A20,H⟩:=H
 replace H : (if t557 = true then ((some (([] : List Int) : List Int)).bind fun y558 => (if y558.length + l0_0.length < 17592186044416 then ((some (([] : List Int) : List Int)).bind fun y564 => (if y564.length + l0_1.length < 17592186044416 then (impl_MachineNot.l0 k l0_2 (l0_2.length : Int) 0 (y558 ++ l0_0) (y564 ++ l0_1) ([] : List Int)) else (none))) else (none))) else (some (([] : List Int),([] : List Int),([] : List Int)))) = some (r1,r2,r3):=H
 have A2:=Aside0.mk A20;clear A20
 by_cases c3 : t557 = true
 ·
  subst c3
  have H1 : ((some (([] : List Int) : List Int)).bind fun y558 => (if y558.length + l0_0.length < 17592186044416 then ((some (([] : List Int) : List Int)).bind fun y564 => (if y564.length + l0_1.length < 17592186044416 then (impl_MachineNot.l0 k l0_2 (l0_2.length : Int) 0 (y558 ++ l0_0) (y564 ++ l0_1) ([] : List Int)) else (none))) else (none))) = some (r1,r2,r3):=by rw [if_pos rfl] at H;exact H
  clear H;have H:=H1;clear H1
  obtain ⟨y558,hy558⟩ : ∃ y_ : List Int,y_ = (([] : List Int)):=⟨_,rfl⟩
  replace H : (if y558.length + l0_0.length < 17592186044416 then ((some (([] : List Int) : List Int)).bind fun y564 => (if y564.length + l0_1.length < 17592186044416 then (impl_MachineNot.l0 k l0_2 (l0_2.length : Int) 0 (y558 ++ l0_0) (y564 ++ l0_1) ([] : List Int)) else (none))) else (none)) = some (r1,r2,r3):=by first|(rw [hy558];with_reducible exact H)|(have H2_:=(Option.bind_some _ _).symm.trans H;rw [hy558];with_reducible exact H2_)|(have H2_:=(Option.bind_some _ _).symm.trans H;with_reducible exact H2_)|with_reducible exact H|(rw [hy558];exact H)|exact H
  have Ny558:=Aside0.mk hy558;clear hy558
  by_cases c4 : y558.length + l0_0.length < 17592186044416
  ·
   rw [if_pos c4] at H
   have LMc4:=Aside0.mk c4;clear c4
   obtain ⟨y561,hy561⟩ : ∃ y_ : List Int,y_ = (y558 ++ l0_0):=⟨_,rfl⟩
   replace H : ((some (([] : List Int) : List Int)).bind fun y564 => (if y564.length + l0_1.length < 17592186044416 then (impl_MachineNot.l0 k l0_2 (l0_2.length : Int) 0 y561 (y564 ++ l0_1) ([] : List Int)) else (none))) = some (r1,r2,r3):=by first|(rw [hy561];with_reducible exact H)|(have H2_:=(Option.bind_some _ _).symm.trans H;rw [hy561];with_reducible exact H2_)|(have H2_:=(Option.bind_some _ _).symm.trans H;with_reducible exact H2_)|with_reducible exact H|(rw [hy561];exact H)|exact H
   have Ny561:=Aside0.mk hy561;clear hy561
   obtain ⟨y564,hy564⟩ : ∃ y_ : List Int,y_ = (([] : List Int)):=⟨_,rfl⟩
   replace H : (if y564.length + l0_1.length < 17592186044416 then (impl_MachineNot.l0 k l0_2 (l0_2.length : Int) 0 y561 (y564 ++ l0_1) ([] : List Int)) else (none)) = some (r1,r2,r3):=by first|(rw [hy564];with_reducible exact H)|(have H2_:=(Option.bind_some _ _).symm.trans H;rw [hy564];with_reducible exact H2_)|(have H2_:=(Option.bind_some _ _).symm.trans H;with_reducible exact H2_)|with_reducible exact H|(rw [hy564];exact H)|exact H
   have Ny564:=Aside0.mk hy564;clear hy564
   by_cases c5 : y564.length + l0_1.length < 17592186044416
   ·
    rw [if_pos c5] at H
    have LMc5:=Aside0.mk c5;clear c5
    obtain ⟨y567,hy567⟩ : ∃ y_ : List Int,y_ = (y564 ++ l0_1):=⟨_,rfl⟩
    replace H : (impl_MachineNot.l0 k l0_2 (l0_2.length : Int) 0 y561 y567 ([] : List Int)) = some (r1,r2,r3):=by first|(rw [hy567];with_reducible exact H)|(have H2_:=(Option.bind_some _ _).symm.trans H;rw [hy567];with_reducible exact H2_)|(have H2_:=(Option.bind_some _ _).symm.trans H;with_reducible exact H2_)|with_reducible exact H|(rw [hy567];exact H)|exact H
    have Ny567:=Aside0.mk hy567;clear hy567
    have H':=Aside0.mk H;clear H
    go_enter Try.func17,Try.ntmps17
    try go_wp2_with (first|((with_reducible refine gate_dst (N:=1) rfl ?_);refine box_event ?hg (N:=1) ?hd (cs:=#[.slice A0_0 l0_0.length c0_0,.slice A0_1 l0_1.length c0_1,.slice A0_2 l0_2.length c0_2]) (t:=26) ?hr ?_;(case hd => rfl);(case hg => rfl);(case hr => first|(go_simp;done)|(go_simp;rfl));intro gb555 hg w6 hbox hb;have n0_:=Aside0.mk (below_step (belU HB.out) hb);have n1_:=Aside0.mk (hbox);have n2_:=Aside0.mk ((by rw [hg];exact (below_size (belU HB.out)) : w.heap.size ≤ gb555));have n3_:=Aside0.mk ((by rw [hg];exact (below_size (belU HB.out)) : w.heap.size ≤ gb555));clear HB;have HB:=n0_;have BK555:=n1_;have GW555:=n2_;have GE555:=n3_;clear n0_ n1_ n2_ n3_ hb hbox hg)|((with_reducible refine gate_dst (N:=2) rfl ?_);refine box_event ?hg (N:=2) ?hd (cs:=#[.slice none 0 0,.slice none 0 0,.slice none 0 0]) (t:=26) ?hr ?_;(case hd => rfl);(case hg => rfl);(case hr => first|(go_simp;done)|(go_simp;rfl));intro gb556 hg w7 hbox hb;have n0_:=Aside0.mk (blk_below (g:=gb555) (o:=.cells #[.slice A0_0 l0_0.length c0_0,.slice A0_1 l0_1.length c0_1,.slice A0_2 l0_2.length c0_2] 26 (0,0)) (blkU BK555.out) hb);have n1_:=Aside0.mk (below_step (by repeat (first|(with_reducible first|exact HB.out|apply below_alloc|apply pw_below_drewN|apply below_drew1|refine below_set ?_ GE555.out)|exact HB.out)) hb);have n2_:=Aside0.mk (hbox);have n3_:=Aside0.mk ((by rw [hg];exact (below_size (by repeat (first|(with_reducible first|exact HB.out|apply below_alloc|apply pw_below_drewN|apply below_drew1|refine below_set ?_ GE555.out)|exact HB.out))) : w.heap.size ≤ gb556));have n4_:=Aside0.mk ((by rw [hg];exact (below_size (by repeat (first|(with_reducible first|exact HB.out|apply below_alloc|apply pw_below_drewN|apply below_drew1|refine below_set ?_ GE555.out)|exact HB.out))) : w.heap.size ≤ gb556));have n5_:=Aside0.mk ((by rw [hg];exact Nat.ne_of_lt (blk_lt (g:=gb555) (o:=.cells #[.slice A0_0 l0_0.length c0_0,.slice A0_1 l0_1.length c0_1,.slice A0_2 l0_2.length c0_2] 26 (0,0)) (blkU BK555.out)) : gb555 ≠ gb556));have n6_:=Aside0.mk ((by rw [hg];exact Nat.ne_of_gt (blk_lt (g:=gb555) (o:=.cells #[.slice A0_0 l0_0.length c0_0,.slice A0_1 l0_1.length c0_1,.slice A0_2 l0_2.length c0_2] 26 (0,0)) (blkU BK555.out)) : gb556 ≠ gb555));clear BK555 HB;have BK555:=n0_;have HB:=n1_;have BK556:=n2_;have GW556:=n3_;have GE556:=n4_;have NB555_556:=n5_;have NB556_555:=n6_;clear n0_ n1_ n2_ n3_ n4_ n5_ n6_ hb hbox hg;have hnb8:=NB555_556.out;have hnc8:=NB556_555.out;have hcz9_0 : w7.cell? ⟨gb555,0,none⟩ = some (.slice A0_0 l0_0.length c0_0):=(blk_cell BK555.out 0).trans rfl;have hcz9_1 : w7.cell? ⟨gb555,1,none⟩ = some (.slice A0_1 l0_1.length c0_1):=(blk_cell BK555.out 1).trans rfl;have hcz9_2 : w7.cell? ⟨gb555,2,none⟩ = some (.slice A0_2 l0_2.length c0_2):=(blk_cell BK555.out 2).trans rfl;have hfz9_0:=blk_frozen BK555.out 0;have hfz9_1:=blk_frozen BK555.out 1;have hfz9_2:=blk_frozen BK555.out 2)|((with_reducible refine gate_callee (f:=26) rfl ?_);refine goesL_ (some 7) rfl rfl Try.func26 (by kernel_rfl) rfl #[.agg #[.slice A0_0 l0_0.length c0_0,.slice A0_1 l0_1.length c0_1,.slice A0_2 l0_2.length c0_2]] rfl (by (try simp only [List.map_toArray,List.map_cons,List.map_nil]);first|done|rfl|(simp only [List.length_drop,List.length_take];rfl)) ?_;(with_reducible refine (impl_isMachine.calls k _ _ l0_0 _ _ l0_1 _ _ l0_2 true _ ?side1 ?side2 ?side3 ?side4 ?side5 ?side6 A2.out).mono ?_);(case side1 => exact cU (Kd.C_below HR0_0.out HB.out));(case side2 => exact HC0_0.out);(case side3 => exact cU (Kd.C_below HR0_1.out HB.out));(case side4 => exact HC0_1.out);(case side5 => exact cU (Kd.C_below HR0_2.out HB.out));(case side6 => exact HC0_2.out);rintro e w10 ⟨rfl,hb⟩;refine ⟨_,rfl,?_⟩;have n0_:=Aside0.mk (blk_below (g:=gb555) (o:=.cells #[.slice A0_0 l0_0.length c0_0,.slice A0_1 l0_1.length c0_1,.slice A0_2 l0_2.length c0_2] 26 (0,0)) (blkU BK555.out) hb);have n1_:=Aside0.mk (blk_below (g:=gb556) (o:=.cells #[.slice none 0 0,.slice none 0 0,.slice none 0 0] 26 (0,0)) (blkU BK556.out) hb);have n2_:=Aside0.mk (below_step (by repeat (first|(with_reducible first|exact HB.out|apply below_alloc|apply pw_below_drewN|apply below_drew1|refine below_set ?_ GE555.out|refine below_set ?_ GE556.out)|exact HB.out)) hb);clear BK555 BK556 HB;have BK555:=n0_;have BK556:=n1_;have HB:=n2_;clear n0_ n1_ n2_;(try clear hb);(try clear hb2);(try clear hk);(try clear hi)))
    have n0_:=Aside0.mk (blk_drew BK555.out);have n1_:=Aside0.mk (blk_drew BK556.out);have n2_:=Aside0.mk (below_drew1 HB.out);clear BK555 BK556 HB;have BK555:=n0_;have BK556:=n1_;have HB:=n2_;clear n0_ n1_ n2_
    refine start_ (n:=11) (S:=fun w' => w'.cell? ⟨gb555,0,none⟩ = some (.slice A0_0 l0_0.length c0_0) ∧ w'.cell? ⟨gb555,1,none⟩ = some (.slice A0_1 l0_1.length c0_1) ∧ w'.cell? ⟨gb555,2,none⟩ = some (.slice A0_2 l0_2.length c0_2)) (ds:=[]) #[false,false,false,false,false,false,false,false,false,false,false] (by kernel_rfl) rfl rfl ⟨(blk_cell BK555.out 0).trans rfl,(blk_cell BK555.out 1).trans rfl,(blk_cell BK555.out 2).trans rfl⟩ (fun hHeld => ?_);refine with_tabW impl_MachineNot.tab3 impl_MachineNot.bits3 (fun HT_ HW_ => ?_)
    generalize w10.drew = w11 at BK555 BK556 HB hHeld ⊢
    refine pure_ (i:=1) (N:=some 11) (v:=?_) (a':=?_) #[false,true,false,false,false,false,false,false,false,false,false] rfl rfl (any_of HT_.out (by kernel_rfl)) (fun _ _ _ h => h) (Or.inl ⟨by rfl,?_⟩) ?_ ?_;rotate_left
    ·
     intro w'
     go_simp
     with_reducible rfl
    rotate_left
    ·
     simp only [Act.put,List.setIfInBounds_toArray,List.set_cons_zero,List.set_cons_succ,i64_w,i32_w]
     rfl
    refine pure_ (i:=5) (N:=some 15) (v:=?_) (a':=?_) #[false,true,false,false,false,true,false,false,false,false,false] rfl rfl (any_of HT_.out (by kernel_rfl)) (fun _ _ _ h => h) (Or.inl ⟨by rfl,?_⟩) ?_ ?_;rotate_left
    ·
     intro w'
     go_simp
     with_reducible rfl
    rotate_left
    ·
     simp only [Act.put,List.setIfInBounds_toArray,List.set_cons_zero,List.set_cons_succ,i64_w,i32_w]
     rfl
    refine take_ (i:=2) (N:=some 12) (v:=?_) (a':=?_) #[false,true,true,false,false,true,false,false,false,false,false] rfl rfl (take_ofW HT_.out HW_.out (by kernel_rfl)) (fun _ _ _ h => h) (Or.inl ⟨by rfl,?_⟩) hHeld ?_ ?_;rotate_left
    ·
     rintro w' ⟨s0,s1,s2⟩
     go_simp
     with_reducible rfl
    rotate_left
    ·
     simp only [Act.put,List.setIfInBounds_toArray,List.set_cons_zero,List.set_cons_succ,i64_w,i32_w]
     rfl
    refine take_ (i:=6) (N:=some 16) (v:=?_) (a':=?_) #[false,true,true,false,false,true,true,false,false,false,false] rfl rfl (take_ofW HT_.out HW_.out (by kernel_rfl)) (fun _ _ _ h => h) (Or.inl ⟨by rfl,?_⟩) hHeld ?_ ?_;rotate_left
    ·
     rintro w' ⟨s0,s1,s2⟩
     go_simp
     with_reducible rfl
    rotate_left
    ·
     simp only [Act.put,List.setIfInBounds_toArray,List.set_cons_zero,List.set_cons_succ,i64_w,i32_w]
     rfl
    refine join_ (σ:=Value × Value × Value × Value × Nat) 1 #[true,true,true,true,true,true,true,true,true,true,false] (fun s_ => [(10,s_.1),(13,s_.2.1),(14,s_.2.2.1),(17,s_.2.2.2.1),(3,.pointer (some ⟨s_.2.2.2.2,0,none⟩)),(18,.agg #[s_.2.1,s_.2.2.2.1,.slice none 0 0])]) (fun s_ w' => (w'.cell? ⟨gb555,0,none⟩ = some (.slice A0_0 l0_0.length c0_0) ∧ w'.cell? ⟨gb555,1,none⟩ = some (.slice A0_1 l0_1.length c0_1) ∧ w'.cell? ⟨gb555,2,none⟩ = some (.slice A0_2 l0_2.length c0_2)) ∧ (Kd.R (Kd.int .i64) 3 w' w.heap.size (fun k_ => some k_ ≠ (s_.2.2.2.1 : Value).ownBlock) s_.2.1 y561) ∧ (Kd.R (Kd.int .i64) 3 w' w.heap.size (fun k_ => some k_ ≠ (s_.2.1 : Value).ownBlock) s_.2.2.2.1 y567) ∧ (w'.heap[gb555]? = some (.cells #[.slice A0_0 l0_0.length c0_0,.slice A0_1 l0_1.length c0_1,.slice A0_2 l0_2.length c0_2] 26 (0,0))) ∧ (w'.heap[gb556]? = some (.cells #[.slice none 0 0,.slice none 0 0,.slice none 0 0] 26 (0,0))) ∧ (w'.heap[s_.2.2.2.2]? = some (.cells #[.slice none 0 0,.slice none 0 0,.slice none 0 0] 26 (0,0))) ∧ (w.heap.size ≤ s_.2.2.2.2) ∧ (w.heap.size ≤ s_.2.2.2.2) ∧ (gb555 ≠ s_.2.2.2.2) ∧ (s_.2.2.2.2 ≠ gb555) ∧ (gb556 ≠ s_.2.2.2.2) ∧ (s_.2.2.2.2 ≠ gb556) ∧ (Below w.heap.size w w')) ?_ ?_;rotate_left
    ·
     intro hJ0_3_4_7_9
     refine join_ (σ:=Value × Value × Value × Value) 2 #[true,true,true,true,true,true,true,true,true,false,false] (fun s_ => [(10,s_.1),(13,s_.2.1),(14,s_.2.2.1),(17,s_.2.2.2),(18,.agg #[s_.2.1,s_.2.2.2,.slice none 0 0])]) (fun s_ w' => (w'.cell? ⟨gb555,0,none⟩ = some (.slice A0_0 l0_0.length c0_0) ∧ w'.cell? ⟨gb555,1,none⟩ = some (.slice A0_1 l0_1.length c0_1) ∧ w'.cell? ⟨gb555,2,none⟩ = some (.slice A0_2 l0_2.length c0_2)) ∧ (Kd.R (Kd.int .i64) 3 w' w.heap.size (fun k_ => some k_ ≠ (s_.2.2.2 : Value).ownBlock) s_.2.1 y561) ∧ (Kd.R (Kd.int .i64) 3 w' w.heap.size (fun k_ => some k_ ≠ (s_.2.1 : Value).ownBlock) s_.2.2.2 y567) ∧ (w'.heap[gb555]? = some (.cells #[.slice A0_0 l0_0.length c0_0,.slice A0_1 l0_1.length c0_1,.slice A0_2 l0_2.length c0_2] 26 (0,0))) ∧ (w'.heap[gb556]? = some (.cells #[.slice none 0 0,.slice none 0 0,.slice none 0 0] 26 (0,0))) ∧ (Below w.heap.size w w')) ?_ ?_;rotate_left
     ·
      intro hJ0_3_4_7
      refine join_ (σ:=Value × Value × Value × Nat) 3 #[true,true,true,true,true,true,true,false,false,true,false] (fun s_ => [(10,s_.1),(13,s_.2.1),(14,s_.2.2.1),(3,.pointer (some ⟨s_.2.2.2,0,none⟩))]) (fun s_ w' => (w'.cell? ⟨gb555,0,none⟩ = some (.slice A0_0 l0_0.length c0_0) ∧ w'.cell? ⟨gb555,1,none⟩ = some (.slice A0_1 l0_1.length c0_1) ∧ w'.cell? ⟨gb555,2,none⟩ = some (.slice A0_2 l0_2.length c0_2)) ∧ (Kd.R (Kd.int .i64) 3 w' w.heap.size (fun k_ => some k_ ≠ (s_.2.2.1 : Value).ownBlock) s_.2.1 y561) ∧ (Kd.R (Kd.int .i64) 3 w' w.heap.size (fun k_ => some k_ ≠ (s_.2.1 : Value).ownBlock) s_.2.2.1 y564) ∧ (w'.heap[gb555]? = some (.cells #[.slice A0_0 l0_0.length c0_0,.slice A0_1 l0_1.length c0_1,.slice A0_2 l0_2.length c0_2] 26 (0,0))) ∧ (w'.heap[gb556]? = some (.cells #[.slice none 0 0,.slice none 0 0,.slice none 0 0] 26 (0,0))) ∧ (w'.heap[s_.2.2.2]? = some (.cells #[.slice none 0 0,.slice none 0 0,.slice none 0 0] 26 (0,0))) ∧ (w.heap.size ≤ s_.2.2.2) ∧ (w.heap.size ≤ s_.2.2.2) ∧ (gb555 ≠ s_.2.2.2) ∧ (s_.2.2.2 ≠ gb555) ∧ (gb556 ≠ s_.2.2.2) ∧ (s_.2.2.2 ≠ gb556) ∧ (Below w.heap.size w w')) ?_ ?_;rotate_left
      ·
       intro hJ0_3_4_9
       refine join_ (σ:=Value × Value × Value) 4 #[true,true,true,true,true,true,true,false,false,false,false] (fun s_ => [(10,s_.1),(13,s_.2.1),(14,s_.2.2)]) (fun s_ w' => (w'.cell? ⟨gb555,0,none⟩ = some (.slice A0_0 l0_0.length c0_0) ∧ w'.cell? ⟨gb555,1,none⟩ = some (.slice A0_1 l0_1.length c0_1) ∧ w'.cell? ⟨gb555,2,none⟩ = some (.slice A0_2 l0_2.length c0_2)) ∧ (Kd.R (Kd.int .i64) 3 w' w.heap.size (fun k_ => some k_ ≠ (s_.2.2 : Value).ownBlock) s_.2.1 y561) ∧ (Kd.R (Kd.int .i64) 3 w' w.heap.size (fun k_ => some k_ ≠ (s_.2.1 : Value).ownBlock) s_.2.2 y564) ∧ (w'.heap[gb555]? = some (.cells #[.slice A0_0 l0_0.length c0_0,.slice A0_1 l0_1.length c0_1,.slice A0_2 l0_2.length c0_2] 26 (0,0))) ∧ (w'.heap[gb556]? = some (.cells #[.slice none 0 0,.slice none 0 0,.slice none 0 0] 26 (0,0))) ∧ (Below w.heap.size w w')) ?_ ?_;rotate_left
       ·
        intro hJ0_3_4
        refine join_ (σ:=Value × Value × Nat) 4 #[true,true,true,true,false,true,true,false,false,true,false] (fun s_ => [(10,s_.1),(13,s_.2.1),(3,.pointer (some ⟨s_.2.2,0,none⟩))]) (fun s_ w' => (w'.cell? ⟨gb555,0,none⟩ = some (.slice A0_0 l0_0.length c0_0) ∧ w'.cell? ⟨gb555,1,none⟩ = some (.slice A0_1 l0_1.length c0_1) ∧ w'.cell? ⟨gb555,2,none⟩ = some (.slice A0_2 l0_2.length c0_2)) ∧ (Kd.R (Kd.int .i64) 3 w' w.heap.size (fun _ => True) s_.2.1 y561) ∧ (w'.heap[gb555]? = some (.cells #[.slice A0_0 l0_0.length c0_0,.slice A0_1 l0_1.length c0_1,.slice A0_2 l0_2.length c0_2] 26 (0,0))) ∧ (w'.heap[gb556]? = some (.cells #[.slice none 0 0,.slice none 0 0,.slice none 0 0] 26 (0,0))) ∧ (w'.heap[s_.2.2]? = some (.cells #[.slice none 0 0,.slice none 0 0,.slice none 0 0] 26 (0,0))) ∧ (w.heap.size ≤ s_.2.2) ∧ (w.heap.size ≤ s_.2.2) ∧ (gb555 ≠ s_.2.2) ∧ (s_.2.2 ≠ gb555) ∧ (gb556 ≠ s_.2.2) ∧ (s_.2.2 ≠ gb556) ∧ (Below w.heap.size w w')) ?_ ?_;rotate_left
        ·
         intro hJ0_3_9
         refine join_ (σ:=Value × Value × Nat) 4 #[true,true,true,false,true,true,true,false,false,true,false] (fun s_ => [(10,s_.1),(14,s_.2.1),(3,.pointer (some ⟨s_.2.2,0,none⟩))]) (fun s_ w' => (w'.cell? ⟨gb555,0,none⟩ = some (.slice A0_0 l0_0.length c0_0) ∧ w'.cell? ⟨gb555,1,none⟩ = some (.slice A0_1 l0_1.length c0_1) ∧ w'.cell? ⟨gb555,2,none⟩ = some (.slice A0_2 l0_2.length c0_2)) ∧ (Kd.R (Kd.int .i64) 3 w' w.heap.size (fun k_ => some k_ ≠ (s_.2.1 : Value).ownBlock) s_.1 y558) ∧ (Kd.R (Kd.int .i64) 3 w' w.heap.size (fun k_ => some k_ ≠ (s_.1 : Value).ownBlock) s_.2.1 y564) ∧ (w'.heap[gb555]? = some (.cells #[.slice A0_0 l0_0.length c0_0,.slice A0_1 l0_1.length c0_1,.slice A0_2 l0_2.length c0_2] 26 (0,0))) ∧ (w'.heap[gb556]? = some (.cells #[.slice none 0 0,.slice none 0 0,.slice none 0 0] 26 (0,0))) ∧ (w'.heap[s_.2.2]? = some (.cells #[.slice none 0 0,.slice none 0 0,.slice none 0 0] 26 (0,0))) ∧ (w.heap.size ≤ s_.2.2) ∧ (w.heap.size ≤ s_.2.2) ∧ (gb555 ≠ s_.2.2) ∧ (s_.2.2 ≠ gb555) ∧ (gb556 ≠ s_.2.2) ∧ (s_.2.2 ≠ gb556) ∧ (Below w.heap.size w w')) ?_ ?_;rotate_left
         ·
          intro hJ0_4_9
          refine join_ (σ:=Value × Value) 5 #[true,true,true,true,false,true,true,false,false,false,false] (fun s_ => [(10,s_.1),(13,s_.2)]) (fun s_ w' => (w'.cell? ⟨gb555,0,none⟩ = some (.slice A0_0 l0_0.length c0_0) ∧ w'.cell? ⟨gb555,1,none⟩ = some (.slice A0_1 l0_1.length c0_1) ∧ w'.cell? ⟨gb555,2,none⟩ = some (.slice A0_2 l0_2.length c0_2)) ∧ (Kd.R (Kd.int .i64) 3 w' w.heap.size (fun _ => True) s_.2 y561) ∧ (w'.heap[gb555]? = some (.cells #[.slice A0_0 l0_0.length c0_0,.slice A0_1 l0_1.length c0_1,.slice A0_2 l0_2.length c0_2] 26 (0,0))) ∧ (w'.heap[gb556]? = some (.cells #[.slice none 0 0,.slice none 0 0,.slice none 0 0] 26 (0,0))) ∧ (Below w.heap.size w w')) ?_ ?_;rotate_left
          ·
           intro hJ0_3
           refine join_ (σ:=Value × Value) 5 #[true,true,true,false,true,true,true,false,false,false,false] (fun s_ => [(10,s_.1),(14,s_.2)]) (fun s_ w' => (w'.cell? ⟨gb555,0,none⟩ = some (.slice A0_0 l0_0.length c0_0) ∧ w'.cell? ⟨gb555,1,none⟩ = some (.slice A0_1 l0_1.length c0_1) ∧ w'.cell? ⟨gb555,2,none⟩ = some (.slice A0_2 l0_2.length c0_2)) ∧ (Kd.R (Kd.int .i64) 3 w' w.heap.size (fun k_ => some k_ ≠ (s_.2 : Value).ownBlock) s_.1 y558) ∧ (Kd.R (Kd.int .i64) 3 w' w.heap.size (fun k_ => some k_ ≠ (s_.1 : Value).ownBlock) s_.2 y564) ∧ (w'.heap[gb555]? = some (.cells #[.slice A0_0 l0_0.length c0_0,.slice A0_1 l0_1.length c0_1,.slice A0_2 l0_2.length c0_2] 26 (0,0))) ∧ (w'.heap[gb556]? = some (.cells #[.slice none 0 0,.slice none 0 0,.slice none 0 0] 26 (0,0))) ∧ (Below w.heap.size w w')) ?_ ?_;rotate_left
           ·
            intro hJ0_4
            refine join_ (σ:=Value × Nat) 5 #[true,true,true,false,false,true,true,false,false,true,false] (fun s_ => [(10,s_.1),(3,.pointer (some ⟨s_.2,0,none⟩))]) (fun s_ w' => (w'.cell? ⟨gb555,0,none⟩ = some (.slice A0_0 l0_0.length c0_0) ∧ w'.cell? ⟨gb555,1,none⟩ = some (.slice A0_1 l0_1.length c0_1) ∧ w'.cell? ⟨gb555,2,none⟩ = some (.slice A0_2 l0_2.length c0_2)) ∧ (Kd.R (Kd.int .i64) 3 w' w.heap.size (fun _ => True) s_.1 y558) ∧ (w'.heap[gb555]? = some (.cells #[.slice A0_0 l0_0.length c0_0,.slice A0_1 l0_1.length c0_1,.slice A0_2 l0_2.length c0_2] 26 (0,0))) ∧ (w'.heap[gb556]? = some (.cells #[.slice none 0 0,.slice none 0 0,.slice none 0 0] 26 (0,0))) ∧ (w'.heap[s_.2]? = some (.cells #[.slice none 0 0,.slice none 0 0,.slice none 0 0] 26 (0,0))) ∧ (w.heap.size ≤ s_.2) ∧ (w.heap.size ≤ s_.2) ∧ (gb555 ≠ s_.2) ∧ (s_.2 ≠ gb555) ∧ (gb556 ≠ s_.2) ∧ (s_.2 ≠ gb556) ∧ (Below w.heap.size w w')) ?_ ?_;rotate_left
            ·
             intro hJ0_9
             refine join_ (σ:=Value × Nat) 5 #[false,true,true,false,true,true,true,false,false,true,false] (fun s_ => [(14,s_.1),(3,.pointer (some ⟨s_.2,0,none⟩))]) (fun s_ w' => (w'.cell? ⟨gb555,0,none⟩ = some (.slice A0_0 l0_0.length c0_0) ∧ w'.cell? ⟨gb555,1,none⟩ = some (.slice A0_1 l0_1.length c0_1) ∧ w'.cell? ⟨gb555,2,none⟩ = some (.slice A0_2 l0_2.length c0_2)) ∧ (Kd.R (Kd.int .i64) 3 w' w.heap.size (fun _ => True) s_.1 y564) ∧ (w'.heap[gb555]? = some (.cells #[.slice A0_0 l0_0.length c0_0,.slice A0_1 l0_1.length c0_1,.slice A0_2 l0_2.length c0_2] 26 (0,0))) ∧ (w'.heap[gb556]? = some (.cells #[.slice none 0 0,.slice none 0 0,.slice none 0 0] 26 (0,0))) ∧ (w'.heap[s_.2]? = some (.cells #[.slice none 0 0,.slice none 0 0,.slice none 0 0] 26 (0,0))) ∧ (w.heap.size ≤ s_.2) ∧ (w.heap.size ≤ s_.2) ∧ (gb555 ≠ s_.2) ∧ (s_.2 ≠ gb555) ∧ (gb556 ≠ s_.2) ∧ (s_.2 ≠ gb556) ∧ (Below w.heap.size w w')) ?_ ?_;rotate_left
             ·
              intro hJ4_9
              refine join_ (σ:=Value) 6 #[true,true,true,false,false,true,true,false,false,false,false] (fun s_ => [(10,s_)]) (fun s_ w' => (w'.cell? ⟨gb555,0,none⟩ = some (.slice A0_0 l0_0.length c0_0) ∧ w'.cell? ⟨gb555,1,none⟩ = some (.slice A0_1 l0_1.length c0_1) ∧ w'.cell? ⟨gb555,2,none⟩ = some (.slice A0_2 l0_2.length c0_2)) ∧ (Kd.R (Kd.int .i64) 3 w' w.heap.size (fun _ => True) s_ y558) ∧ (w'.heap[gb555]? = some (.cells #[.slice A0_0 l0_0.length c0_0,.slice A0_1 l0_1.length c0_1,.slice A0_2 l0_2.length c0_2] 26 (0,0))) ∧ (w'.heap[gb556]? = some (.cells #[.slice none 0 0,.slice none 0 0,.slice none 0 0] 26 (0,0))) ∧ (Below w.heap.size w w')) ?_ ?_;rotate_left
              ·
               intro hJ0
               refine join_ (σ:=Value) 6 #[false,true,true,false,true,true,true,false,false,false,false] (fun s_ => [(14,s_)]) (fun s_ w' => (w'.cell? ⟨gb555,0,none⟩ = some (.slice A0_0 l0_0.length c0_0) ∧ w'.cell? ⟨gb555,1,none⟩ = some (.slice A0_1 l0_1.length c0_1) ∧ w'.cell? ⟨gb555,2,none⟩ = some (.slice A0_2 l0_2.length c0_2)) ∧ (Kd.R (Kd.int .i64) 3 w' w.heap.size (fun _ => True) s_ y564) ∧ (w'.heap[gb555]? = some (.cells #[.slice A0_0 l0_0.length c0_0,.slice A0_1 l0_1.length c0_1,.slice A0_2 l0_2.length c0_2] 26 (0,0))) ∧ (w'.heap[gb556]? = some (.cells #[.slice none 0 0,.slice none 0 0,.slice none 0 0] 26 (0,0))) ∧ (Below w.heap.size w w')) ?_ ?_;rotate_left
               ·
                intro hJ4
                refine join_ (σ:=Nat) 6 #[false,true,true,false,false,true,true,false,false,true,false] (fun s_ => [(3,.pointer (some ⟨s_,0,none⟩))]) (fun s_ w' => (w'.cell? ⟨gb555,0,none⟩ = some (.slice A0_0 l0_0.length c0_0) ∧ w'.cell? ⟨gb555,1,none⟩ = some (.slice A0_1 l0_1.length c0_1) ∧ w'.cell? ⟨gb555,2,none⟩ = some (.slice A0_2 l0_2.length c0_2)) ∧ (w'.heap[gb555]? = some (.cells #[.slice A0_0 l0_0.length c0_0,.slice A0_1 l0_1.length c0_1,.slice A0_2 l0_2.length c0_2] 26 (0,0))) ∧ (w'.heap[gb556]? = some (.cells #[.slice none 0 0,.slice none 0 0,.slice none 0 0] 26 (0,0))) ∧ (w'.heap[s_]? = some (.cells #[.slice none 0 0,.slice none 0 0,.slice none 0 0] 26 (0,0))) ∧ (w.heap.size ≤ s_) ∧ (w.heap.size ≤ s_) ∧ (gb555 ≠ s_) ∧ (s_ ≠ gb555) ∧ (gb556 ≠ s_) ∧ (s_ ≠ gb556) ∧ (Below w.heap.size w w')) ?_ ?_;rotate_left
                ·
                 intro hJ9
                 refine three_ (i:=0) (j:=4) (k:=9) (Ni:=some 10) (Nj:=some 14) (Nk:=some 3) #[true,true,true,false,false,true,true,false,false,false,false] #[false,true,true,false,true,true,true,false,false,false,false] #[false,true,true,false,false,true,true,false,false,true,false] rfl rfl rfl rfl rfl rfl (three_of HT_.out (by kernel_rfl)) (by decide) (by decide) (by decide) (fun K hK => ?_) (fun K hK => ?_) (fun K hK => ?_)
                 ·
                  skip
                  refine Kd.R_lit_step (Kd.int .i64) _ 3 ?hg (N:=10) ?hd (xs:=([] : List Int)) (inner:=[]) (ok:=fun _ => True) (okp:=fun _ => True) ?hr ?hp (fun _ hk => hk) trivial (Below.refl _ _) (Nat.le_refl _) (by simp) ?_;(case hd => rfl);(case hg => rfl);(case hr => first|(go_simp;done)|(go_simp;rfl));(case hp => exact (Reps.none _ _));intro v559 w12 ho13 hb hg_ hnew_;clear hg_ hnew_
                  (first|rw [← Ny558.out] at ho13|(simp only [Int.reduceToNat] at ho13;rw [← Ny558.out] at ho13));have n0_:=Aside0.mk (Kd.R_lower ho13 (below_size (by repeat (first|(with_reducible first|exact HB.out|apply below_alloc|apply pw_below_drewN|apply below_drew1|refine below_set ?_ GE555.out|refine below_set ?_ GE556.out)|exact HB.out))));have n1_:=Aside0.mk (blk_below (g:=gb555) (o:=.cells #[.slice A0_0 l0_0.length c0_0,.slice A0_1 l0_1.length c0_1,.slice A0_2 l0_2.length c0_2] 26 (0,0)) (blkU BK555.out) hb);have n2_:=Aside0.mk (blk_below (g:=gb556) (o:=.cells #[.slice none 0 0,.slice none 0 0,.slice none 0 0] 26 (0,0)) (blkU BK556.out) hb);have n3_:=Aside0.mk (below_step (by repeat (first|(with_reducible first|exact HB.out|apply below_alloc|apply pw_below_drewN|apply below_drew1|refine below_set ?_ GE555.out|refine below_set ?_ GE556.out)|exact HB.out)) hb);clear BK555 BK556 HB;have HO560:=n0_;have BK555:=n1_;have BK556:=n2_;have HB:=n3_;clear n0_ n1_ n2_ n3_ hb ho13
                  refine hK.out _ _ ⟨(blk_cell BK555.out 0).trans rfl,(blk_cell BK555.out 1).trans rfl,(blk_cell BK555.out 2).trans rfl⟩ (fun hHeld => ?_);clear hK K
                  refine norm_ (a':=?_) ?_ ?_;rotate_left
                  ·
                   show Act.put _ (some 10) _ = _
                   simp only [Act.put,List.setIfInBounds_toArray,List.set_cons_zero,List.set_cons_succ,i64_w,i32_w]
                   rfl
                  exact norm_ (by first|(simp only [putAll,Act.put,List.setIfInBounds_toArray,List.set_cons_zero,List.set_cons_succ];done)|(simp only [putAll,Act.put,List.setIfInBounds_toArray,List.set_cons_zero,List.set_cons_succ];rfl)) (hJ0 (v559) _ ⟨hHeld,(rU HO560.out),(blkU BK555.out),(blkU BK556.out),(by repeat (first|(with_reducible first|exact HB.out|apply below_alloc|apply pw_below_drewN|apply below_drew1|refine below_set ?_ GE555.out|refine below_set ?_ GE556.out)|exact HB.out))⟩)
                 ·
                  skip
                  refine Kd.R_lit_step (Kd.int .i64) _ 3 ?hg (N:=14) ?hd (xs:=([] : List Int)) (inner:=[]) (ok:=fun _ => True) (okp:=fun _ => True) ?hr ?hp (fun _ hk => hk) trivial (Below.refl _ _) (Nat.le_refl _) (by simp) ?_;(case hd => rfl);(case hg => rfl);(case hr => first|(go_simp;done)|(go_simp;rfl));(case hp => exact (Reps.none _ _));intro v565 w12 ho13 hb hg_ hnew_;clear hg_ hnew_
                  (first|rw [← Ny564.out] at ho13|(simp only [Int.reduceToNat] at ho13;rw [← Ny564.out] at ho13));have n0_:=Aside0.mk (Kd.R_lower ho13 (below_size (by repeat (first|(with_reducible first|exact HB.out|apply below_alloc|apply pw_below_drewN|apply below_drew1|refine below_set ?_ GE555.out|refine below_set ?_ GE556.out)|exact HB.out))));have n1_:=Aside0.mk (blk_below (g:=gb555) (o:=.cells #[.slice A0_0 l0_0.length c0_0,.slice A0_1 l0_1.length c0_1,.slice A0_2 l0_2.length c0_2] 26 (0,0)) (blkU BK555.out) hb);have n2_:=Aside0.mk (blk_below (g:=gb556) (o:=.cells #[.slice none 0 0,.slice none 0 0,.slice none 0 0] 26 (0,0)) (blkU BK556.out) hb);have n3_:=Aside0.mk (below_step (by repeat (first|(with_reducible first|exact HB.out|apply below_alloc|apply pw_below_drewN|apply below_drew1|refine below_set ?_ GE555.out|refine below_set ?_ GE556.out)|exact HB.out)) hb);clear BK555 BK556 HB;have HO566:=n0_;have BK555:=n1_;have BK556:=n2_;have HB:=n3_;clear n0_ n1_ n2_ n3_ hb ho13
                  refine hK.out _ _ ⟨(blk_cell BK555.out 0).trans rfl,(blk_cell BK555.out 1).trans rfl,(blk_cell BK555.out 2).trans rfl⟩ (fun hHeld => ?_);clear hK K
                  refine norm_ (a':=?_) ?_ ?_;rotate_left
                  ·
                   show Act.put _ (some 14) _ = _
                   simp only [Act.put,List.setIfInBounds_toArray,List.set_cons_zero,List.set_cons_succ,i64_w,i32_w]
                   rfl
                  exact norm_ (by first|(simp only [putAll,Act.put,List.setIfInBounds_toArray,List.set_cons_zero,List.set_cons_succ];done)|(simp only [putAll,Act.put,List.setIfInBounds_toArray,List.set_cons_zero,List.set_cons_succ];rfl)) (hJ4 (v565) _ ⟨hHeld,(rU HO566.out),(blkU BK555.out),(blkU BK556.out),(by repeat (first|(with_reducible first|exact HB.out|apply below_alloc|apply pw_below_drewN|apply below_drew1|refine below_set ?_ GE555.out|refine below_set ?_ GE556.out)|exact HB.out))⟩)
                 ·
                  skip
                  refine box_step ?hg (N:=3) ?hd (cs:=#[.slice none 0 0,.slice none 0 0,.slice none 0 0]) (t:=26) ?hr ?_;(case hd => rfl);(case hg => rfl);(case hr => first|(go_simp;done)|(go_simp;rfl));intro gb570 hg w12 hbox hb;have n0_:=Aside0.mk (blk_below (g:=gb555) (o:=.cells #[.slice A0_0 l0_0.length c0_0,.slice A0_1 l0_1.length c0_1,.slice A0_2 l0_2.length c0_2] 26 (0,0)) (blkU BK555.out) hb);have n1_:=Aside0.mk (blk_below (g:=gb556) (o:=.cells #[.slice none 0 0,.slice none 0 0,.slice none 0 0] 26 (0,0)) (blkU BK556.out) hb);have n2_:=Aside0.mk (below_step (by repeat (first|(with_reducible first|exact HB.out|apply below_alloc|apply pw_below_drewN|apply below_drew1|refine below_set ?_ GE555.out|refine below_set ?_ GE556.out)|exact HB.out)) hb);have n3_:=Aside0.mk (hbox);have n4_:=Aside0.mk ((by rw [hg];exact (below_size (by repeat (first|(with_reducible first|exact HB.out|apply below_alloc|apply pw_below_drewN|apply below_drew1|refine below_set ?_ GE555.out|refine below_set ?_ GE556.out)|exact HB.out))) : w.heap.size ≤ gb570));have n5_:=Aside0.mk ((by rw [hg];exact (below_size (by repeat (first|(with_reducible first|exact HB.out|apply below_alloc|apply pw_below_drewN|apply below_drew1|refine below_set ?_ GE555.out|refine below_set ?_ GE556.out)|exact HB.out))) : w.heap.size ≤ gb570))
                  have n6_:=Aside0.mk ((by rw [hg];exact Nat.ne_of_lt (blk_lt (g:=gb555) (o:=.cells #[.slice A0_0 l0_0.length c0_0,.slice A0_1 l0_1.length c0_1,.slice A0_2 l0_2.length c0_2] 26 (0,0)) (blkU BK555.out)) : gb555 ≠ gb570));have n7_:=Aside0.mk ((by rw [hg];exact Nat.ne_of_gt (blk_lt (g:=gb555) (o:=.cells #[.slice A0_0 l0_0.length c0_0,.slice A0_1 l0_1.length c0_1,.slice A0_2 l0_2.length c0_2] 26 (0,0)) (blkU BK555.out)) : gb570 ≠ gb555));have n8_:=Aside0.mk ((by rw [hg];exact Nat.ne_of_lt (blk_lt (g:=gb556) (o:=.cells #[.slice none 0 0,.slice none 0 0,.slice none 0 0] 26 (0,0)) (blkU BK556.out)) : gb556 ≠ gb570));have n9_:=Aside0.mk ((by rw [hg];exact Nat.ne_of_gt (blk_lt (g:=gb556) (o:=.cells #[.slice none 0 0,.slice none 0 0,.slice none 0 0] 26 (0,0)) (blkU BK556.out)) : gb570 ≠ gb556));clear BK555 BK556 HB;have BK555:=n0_;have BK556:=n1_;have HB:=n2_;have BK570:=n3_;have GW570:=n4_;have GE570:=n5_;have NB555_570:=n6_;have NB570_555:=n7_;have NB556_570:=n8_
                  have NB570_556:=n9_;clear n0_ n1_ n2_ n3_ n4_ n5_ n6_ n7_ n8_ n9_ hb hbox hg
                  refine hK.out _ _ ⟨(blk_cell BK555.out 0).trans rfl,(blk_cell BK555.out 1).trans rfl,(blk_cell BK555.out 2).trans rfl⟩ (fun hHeld => ?_);clear hK K
                  refine norm_ (a':=?_) ?_ ?_;rotate_left
                  ·
                   show Act.put _ (some 3) _ = _
                   simp only [Act.put,List.setIfInBounds_toArray,List.set_cons_zero,List.set_cons_succ,i64_w,i32_w]
                   rfl
                  exact norm_ (by first|(simp only [putAll,Act.put,List.setIfInBounds_toArray,List.set_cons_zero,List.set_cons_succ];done)|(simp only [putAll,Act.put,List.setIfInBounds_toArray,List.set_cons_zero,List.set_cons_succ];rfl)) (hJ9 (gb570) _ ⟨hHeld,(blkU BK555.out),(blkU BK556.out),(blkU BK570.out),GW570.out,GE570.out,NB555_570.out,NB570_555.out,NB556_570.out,NB570_556.out,(by repeat (first|(with_reducible first|exact HB.out|apply below_alloc|apply pw_below_drewN|apply below_drew1|refine below_set ?_ GE555.out|refine below_set ?_ GE556.out|refine below_set ?_ GE570.out)|exact HB.out))⟩)
                ·
                 skip
                 rintro gb570 w13 ⟨hS_,h0_,h1_,h2_,h3_,h4_,h5_,h6_,h7_,h8_,h9_⟩
                 have n0_ : Aside0 (w13.heap[gb555]? = some (.cells #[.slice A0_0 l0_0.length c0_0,.slice A0_1 l0_1.length c0_1,.slice A0_2 l0_2.length c0_2] 26 (0,0))):=⟨h0_⟩
                 have n1_ : Aside0 (w13.heap[gb556]? = some (.cells #[.slice none 0 0,.slice none 0 0,.slice none 0 0] 26 (0,0))):=⟨h1_⟩
                 have n2_ : Aside0 (w13.heap[gb570]? = some (.cells #[.slice none 0 0,.slice none 0 0,.slice none 0 0] 26 (0,0))):=⟨h2_⟩
                 have n3_ : Aside0 (w.heap.size ≤ gb570):=⟨h3_⟩
                 have n4_ : Aside0 (w.heap.size ≤ gb570):=⟨h4_⟩
                 have n5_ : Aside0 (gb555 ≠ gb570):=⟨h5_⟩
                 have n6_ : Aside0 (gb570 ≠ gb555):=⟨h6_⟩
                 have n7_ : Aside0 (gb556 ≠ gb570):=⟨h7_⟩
                 have n8_ : Aside0 (gb570 ≠ gb556):=⟨h8_⟩
                 have n9_ : Aside0 (Below w.heap.size w w13):=⟨h9_⟩;clear BK555 BK556 HB h0_ h1_ h2_ h3_ h4_ h5_ h6_ h7_ h8_ h9_;have BK555:=n0_;have BK556:=n1_;have BK570:=n2_;have GW570:=n3_;have GE570:=n4_;have NB555_570:=n5_;have NB570_555:=n6_;have NB556_570:=n7_;have NB570_556:=n8_;have HB:=n9_;clear n0_ n1_ n2_ n3_ n4_ n5_ n6_ n7_ n8_ n9_
                 have hHeld : w13.cell? ⟨gb555,0,none⟩ = some (.slice A0_0 l0_0.length c0_0) ∧ w13.cell? ⟨gb555,1,none⟩ = some (.slice A0_1 l0_1.length c0_1) ∧ w13.cell? ⟨gb555,2,none⟩ = some (.slice A0_2 l0_2.length c0_2):=hS_
                 refine norm_ (a':=?_) ?_ ?_;rotate_left
                 ·
                  simp only [putAll,Act.put,List.setIfInBounds_toArray,List.set_cons_zero,List.set_cons_succ]
                  rfl
                 refine two_ (i:=0) (j:=4) (Ni:=some 10) (Nj:=some 14) #[true,true,true,false,false,true,true,false,false,true,false] #[false,true,true,false,true,true,true,false,false,true,false] rfl rfl rfl rfl (two_of HT_.out (by kernel_rfl)) (by decide) (by decide) (fun K hK => ?_) (fun K hK => ?_)
                 ·
                  skip
                  refine Kd.R_lit_step (Kd.int .i64) _ 3 ?hg (N:=10) ?hd (xs:=([] : List Int)) (inner:=[]) (ok:=fun _ => True) (okp:=fun _ => True) ?hr ?hp (fun _ hk => hk) trivial (Below.refl _ _) (Nat.le_refl _) (by simp) ?_;(case hd => rfl);(case hg => rfl);(case hr => first|(go_simp;done)|(go_simp;rfl));(case hp => exact (Reps.none _ _));intro v559 w14 ho15 hb hg_ hnew_;clear hg_ hnew_
                  (first|rw [← Ny558.out] at ho15|(simp only [Int.reduceToNat] at ho15;rw [← Ny558.out] at ho15));have n0_:=Aside0.mk (Kd.R_lower ho15 (below_size (by repeat (first|(with_reducible first|exact HB.out|apply below_alloc|apply pw_below_drewN|apply below_drew1|refine below_set ?_ GE555.out|refine below_set ?_ GE556.out|refine below_set ?_ GE570.out)|exact HB.out))));have n1_:=Aside0.mk (blk_below (g:=gb555) (o:=.cells #[.slice A0_0 l0_0.length c0_0,.slice A0_1 l0_1.length c0_1,.slice A0_2 l0_2.length c0_2] 26 (0,0)) (blkU BK555.out) hb);have n2_:=Aside0.mk (blk_below (g:=gb556) (o:=.cells #[.slice none 0 0,.slice none 0 0,.slice none 0 0] 26 (0,0)) (blkU BK556.out) hb);have n3_:=Aside0.mk (blk_below (g:=gb570) (o:=.cells #[.slice none 0 0,.slice none 0 0,.slice none 0 0] 26 (0,0)) (blkU BK570.out) hb);have n4_:=Aside0.mk (below_step (by repeat (first|(with_reducible first|exact HB.out|apply below_alloc|apply pw_below_drewN|apply below_drew1|refine below_set ?_ GE555.out|refine below_set ?_ GE556.out|refine below_set ?_ GE570.out)|exact HB.out)) hb);clear BK555
                  clear BK556 BK570 HB;have HO560:=n0_;have BK555:=n1_;have BK556:=n2_;have BK570:=n3_;have HB:=n4_;clear n0_ n1_ n2_ n3_ n4_ hb ho15
                  refine hK.out _ _ ⟨(blk_cell BK555.out 0).trans rfl,(blk_cell BK555.out 1).trans rfl,(blk_cell BK555.out 2).trans rfl⟩ (fun hHeld => ?_);clear hK K
                  refine norm_ (a':=?_) ?_ ?_;rotate_left
                  ·
                   show Act.put _ (some 10) _ = _
                   simp only [Act.put,List.setIfInBounds_toArray,List.set_cons_zero,List.set_cons_succ,i64_w,i32_w]
                   rfl
                  exact norm_ (by first|(simp only [putAll,Act.put,List.setIfInBounds_toArray,List.set_cons_zero,List.set_cons_succ];done)|(simp only [putAll,Act.put,List.setIfInBounds_toArray,List.set_cons_zero,List.set_cons_succ];rfl)) (hJ0_9 (v559,gb570) _ ⟨hHeld,(rU HO560.out),(blkU BK555.out),(blkU BK556.out),(blkU BK570.out),GW570.out,GE570.out,NB555_570.out,NB570_555.out,NB556_570.out,NB570_556.out,(by repeat (first|(with_reducible first|exact HB.out|apply below_alloc|apply pw_below_drewN|apply below_drew1|refine below_set ?_ GE555.out|refine below_set ?_ GE556.out|refine below_set ?_ GE570.out)|exact HB.out))⟩)
                 ·
                  skip
                  refine Kd.R_lit_step (Kd.int .i64) _ 3 ?hg (N:=14) ?hd (xs:=([] : List Int)) (inner:=[]) (ok:=fun _ => True) (okp:=fun _ => True) ?hr ?hp (fun _ hk => hk) trivial (Below.refl _ _) (Nat.le_refl _) (by simp) ?_;(case hd => rfl);(case hg => rfl);(case hr => first|(go_simp;done)|(go_simp;rfl));(case hp => exact (Reps.none _ _));intro v565 w14 ho15 hb hg_ hnew_;clear hg_ hnew_
                  (first|rw [← Ny564.out] at ho15|(simp only [Int.reduceToNat] at ho15;rw [← Ny564.out] at ho15));have n0_:=Aside0.mk (Kd.R_lower ho15 (below_size (by repeat (first|(with_reducible first|exact HB.out|apply below_alloc|apply pw_below_drewN|apply below_drew1|refine below_set ?_ GE555.out|refine below_set ?_ GE556.out|refine below_set ?_ GE570.out)|exact HB.out))));have n1_:=Aside0.mk (blk_below (g:=gb555) (o:=.cells #[.slice A0_0 l0_0.length c0_0,.slice A0_1 l0_1.length c0_1,.slice A0_2 l0_2.length c0_2] 26 (0,0)) (blkU BK555.out) hb);have n2_:=Aside0.mk (blk_below (g:=gb556) (o:=.cells #[.slice none 0 0,.slice none 0 0,.slice none 0 0] 26 (0,0)) (blkU BK556.out) hb);have n3_:=Aside0.mk (blk_below (g:=gb570) (o:=.cells #[.slice none 0 0,.slice none 0 0,.slice none 0 0] 26 (0,0)) (blkU BK570.out) hb);have n4_:=Aside0.mk (below_step (by repeat (first|(with_reducible first|exact HB.out|apply below_alloc|apply pw_below_drewN|apply below_drew1|refine below_set ?_ GE555.out|refine below_set ?_ GE556.out|refine below_set ?_ GE570.out)|exact HB.out)) hb);clear BK555
                  clear BK556 BK570 HB;have HO566:=n0_;have BK555:=n1_;have BK556:=n2_;have BK570:=n3_;have HB:=n4_;clear n0_ n1_ n2_ n3_ n4_ hb ho15
                  refine hK.out _ _ ⟨(blk_cell BK555.out 0).trans rfl,(blk_cell BK555.out 1).trans rfl,(blk_cell BK555.out 2).trans rfl⟩ (fun hHeld => ?_);clear hK K
                  refine norm_ (a':=?_) ?_ ?_;rotate_left
                  ·
                   show Act.put _ (some 14) _ = _
                   simp only [Act.put,List.setIfInBounds_toArray,List.set_cons_zero,List.set_cons_succ,i64_w,i32_w]
                   rfl
                  exact norm_ (by first|(simp only [putAll,Act.put,List.setIfInBounds_toArray,List.set_cons_zero,List.set_cons_succ];done)|(simp only [putAll,Act.put,List.setIfInBounds_toArray,List.set_cons_zero,List.set_cons_succ];rfl)) (hJ4_9 (v565,gb570) _ ⟨hHeld,(rU HO566.out),(blkU BK555.out),(blkU BK556.out),(blkU BK570.out),GW570.out,GE570.out,NB555_570.out,NB570_555.out,NB556_570.out,NB570_556.out,(by repeat (first|(with_reducible first|exact HB.out|apply below_alloc|apply pw_below_drewN|apply below_drew1|refine below_set ?_ GE555.out|refine below_set ?_ GE556.out|refine below_set ?_ GE570.out)|exact HB.out))⟩)
               ·
                skip
                rintro v565 w14 ⟨hS_,h0_,h1_,h2_,h3_⟩
                have n0_ : Aside0 (Kd.R (Kd.int .i64) 3 w14 w.heap.size (fun _ => True) v565 y564):=⟨h0_⟩
                have n1_ : Aside0 (w14.heap[gb555]? = some (.cells #[.slice A0_0 l0_0.length c0_0,.slice A0_1 l0_1.length c0_1,.slice A0_2 l0_2.length c0_2] 26 (0,0))):=⟨h1_⟩
                have n2_ : Aside0 (w14.heap[gb556]? = some (.cells #[.slice none 0 0,.slice none 0 0,.slice none 0 0] 26 (0,0))):=⟨h2_⟩
                have n3_ : Aside0 (Below w.heap.size w w14):=⟨h3_⟩;clear BK555 BK556 HB h0_ h1_ h2_ h3_;have HO566:=n0_;have BK555:=n1_;have BK556:=n2_;have HB:=n3_;clear n0_ n1_ n2_ n3_
                have hHeld : w14.cell? ⟨gb555,0,none⟩ = some (.slice A0_0 l0_0.length c0_0) ∧ w14.cell? ⟨gb555,1,none⟩ = some (.slice A0_1 l0_1.length c0_1) ∧ w14.cell? ⟨gb555,2,none⟩ = some (.slice A0_2 l0_2.length c0_2):=hS_
                refine norm_ (a':=?_) ?_ ?_;rotate_left
                ·
                 simp only [putAll,Act.put,List.setIfInBounds_toArray,List.set_cons_zero,List.set_cons_succ]
                 rfl
                refine two_ (i:=0) (j:=9) (Ni:=some 10) (Nj:=some 3) #[true,true,true,false,true,true,true,false,false,false,false] #[false,true,true,false,true,true,true,false,false,true,false] rfl rfl rfl rfl (two_of HT_.out (by kernel_rfl)) (by decide) (by decide) (fun K hK => ?_) (fun K hK => ?_)
                ·
                 skip
                 refine Kd.R_lit_step (Kd.int .i64) _ 3 ?hg (N:=10) ?hd (xs:=([] : List Int)) (inner:=[]) (ok:=fun _ => True) (okp:=fun _ => True) ?hr ?hp (fun _ hk => hk) trivial (Below.refl _ _) (Nat.le_refl _) (by simp) ?_;(case hd => rfl);(case hg => rfl);(case hr => first|(go_simp;done)|(go_simp;rfl));(case hp => exact (Reps.none _ _));intro v559 w15 ho16 hb hg_ hnew_;clear hg_ hnew_
                 (first|rw [← Ny558.out] at ho16|(simp only [Int.reduceToNat] at ho16;rw [← Ny558.out] at ho16));have n0_:=Aside0.mk (Kd.R_elder' (rU HO566.out) (Kd.R_base ho16) hb);have n1_:=Aside0.mk (Kd.R_lower (Kd.R_new' ho16 (Kd.R_lt (rU HO566.out))) (below_size (by repeat (first|(with_reducible first|exact HB.out|apply below_alloc|apply pw_below_drewN|apply below_drew1|refine below_set ?_ GE555.out|refine below_set ?_ GE556.out)|exact HB.out))));have n2_:=Aside0.mk (blk_below (g:=gb555) (o:=.cells #[.slice A0_0 l0_0.length c0_0,.slice A0_1 l0_1.length c0_1,.slice A0_2 l0_2.length c0_2] 26 (0,0)) (blkU BK555.out) hb);have n3_:=Aside0.mk (blk_below (g:=gb556) (o:=.cells #[.slice none 0 0,.slice none 0 0,.slice none 0 0] 26 (0,0)) (blkU BK556.out) hb);have n4_:=Aside0.mk (below_step (by repeat (first|(with_reducible first|exact HB.out|apply below_alloc|apply pw_below_drewN|apply below_drew1|refine below_set ?_ GE555.out|refine below_set ?_ GE556.out)|exact HB.out)) hb);clear HO566 BK555 BK556
                 clear HB;have HO566:=n0_;have HO560:=n1_;have BK555:=n2_;have BK556:=n3_;have HB:=n4_;clear n0_ n1_ n2_ n3_ n4_ hb ho16
                 refine hK.out _ _ ⟨(blk_cell BK555.out 0).trans rfl,(blk_cell BK555.out 1).trans rfl,(blk_cell BK555.out 2).trans rfl⟩ (fun hHeld => ?_);clear hK K
                 refine norm_ (a':=?_) ?_ ?_;rotate_left
                 ·
                  show Act.put _ (some 10) _ = _
                  simp only [Act.put,List.setIfInBounds_toArray,List.set_cons_zero,List.set_cons_succ,i64_w,i32_w]
                  rfl
                 exact norm_ (by first|(simp only [putAll,Act.put,List.setIfInBounds_toArray,List.set_cons_zero,List.set_cons_succ];done)|(simp only [putAll,Act.put,List.setIfInBounds_toArray,List.set_cons_zero,List.set_cons_succ];rfl)) (hJ0_4 (v559,v565) _ ⟨hHeld,(by (with_reducible repeat (first|apply Kd.R_alloc|apply Kd.R_drewN|apply Kd.R_drew));exact Kd.R_mono HO560.out (fun _ hk => hk.2)),(by (with_reducible repeat (first|apply Kd.R_alloc|apply Kd.R_drewN|apply Kd.R_drew));exact Kd.R_mono HO566.out (fun _ hk => hk.2)),(blkU BK555.out),(blkU BK556.out),(by repeat (first|(with_reducible first|exact HB.out|apply below_alloc|apply pw_below_drewN|apply below_drew1|refine below_set ?_ GE555.out|refine below_set ?_ GE556.out)|exact HB.out))⟩)
                ·
                 skip
                 refine box_step ?hg (N:=3) ?hd (cs:=#[.slice none 0 0,.slice none 0 0,.slice none 0 0]) (t:=26) ?hr ?_;(case hd => rfl);(case hg => rfl);(case hr => first|(go_simp;done)|(go_simp;rfl));intro gb570 hg w15 hbox hb;have n0_:=Aside0.mk (Kd.R_below (rU HO566.out) hb);have n1_:=Aside0.mk (blk_below (g:=gb555) (o:=.cells #[.slice A0_0 l0_0.length c0_0,.slice A0_1 l0_1.length c0_1,.slice A0_2 l0_2.length c0_2] 26 (0,0)) (blkU BK555.out) hb);have n2_:=Aside0.mk (blk_below (g:=gb556) (o:=.cells #[.slice none 0 0,.slice none 0 0,.slice none 0 0] 26 (0,0)) (blkU BK556.out) hb);have n3_:=Aside0.mk (below_step (by repeat (first|(with_reducible first|exact HB.out|apply below_alloc|apply pw_below_drewN|apply below_drew1|refine below_set ?_ GE555.out|refine below_set ?_ GE556.out)|exact HB.out)) hb);have n4_:=Aside0.mk (hbox);have n5_:=Aside0.mk ((by rw [hg];exact (below_size (by repeat (first|(with_reducible first|exact HB.out|apply below_alloc|apply pw_below_drewN|apply below_drew1|refine below_set ?_ GE555.out|refine below_set ?_ GE556.out)|exact HB.out))) : w.heap.size ≤ gb570))
                 have n6_:=Aside0.mk ((by rw [hg];exact (below_size (by repeat (first|(with_reducible first|exact HB.out|apply below_alloc|apply pw_below_drewN|apply below_drew1|refine below_set ?_ GE555.out|refine below_set ?_ GE556.out)|exact HB.out))) : w.heap.size ≤ gb570));have n7_:=Aside0.mk ((by rw [hg];exact Nat.ne_of_lt (blk_lt (g:=gb555) (o:=.cells #[.slice A0_0 l0_0.length c0_0,.slice A0_1 l0_1.length c0_1,.slice A0_2 l0_2.length c0_2] 26 (0,0)) (blkU BK555.out)) : gb555 ≠ gb570));have n8_:=Aside0.mk ((by rw [hg];exact Nat.ne_of_gt (blk_lt (g:=gb555) (o:=.cells #[.slice A0_0 l0_0.length c0_0,.slice A0_1 l0_1.length c0_1,.slice A0_2 l0_2.length c0_2] 26 (0,0)) (blkU BK555.out)) : gb570 ≠ gb555));have n9_:=Aside0.mk ((by rw [hg];exact Nat.ne_of_lt (blk_lt (g:=gb556) (o:=.cells #[.slice none 0 0,.slice none 0 0,.slice none 0 0] 26 (0,0)) (blkU BK556.out)) : gb556 ≠ gb570));have n10_:=Aside0.mk ((by rw [hg];exact Nat.ne_of_gt (blk_lt (g:=gb556) (o:=.cells #[.slice none 0 0,.slice none 0 0,.slice none 0 0] 26 (0,0)) (blkU BK556.out)) : gb570 ≠ gb556))
                 clear HO566 BK555 BK556 HB;have HO566:=n0_;have BK555:=n1_;have BK556:=n2_;have HB:=n3_;have BK570:=n4_;have GW570:=n5_;have GE570:=n6_;have NB555_570:=n7_;have NB570_555:=n8_;have NB556_570:=n9_;have NB570_556:=n10_;clear n0_ n1_ n2_ n3_ n4_ n5_ n6_ n7_ n8_ n9_ n10_ hb hbox hg
                 refine hK.out _ _ ⟨(blk_cell BK555.out 0).trans rfl,(blk_cell BK555.out 1).trans rfl,(blk_cell BK555.out 2).trans rfl⟩ (fun hHeld => ?_);clear hK K
                 refine norm_ (a':=?_) ?_ ?_;rotate_left
                 ·
                  show Act.put _ (some 3) _ = _
                  simp only [Act.put,List.setIfInBounds_toArray,List.set_cons_zero,List.set_cons_succ,i64_w,i32_w]
                  rfl
                 exact norm_ (by first|(simp only [putAll,Act.put,List.setIfInBounds_toArray,List.set_cons_zero,List.set_cons_succ];done)|(simp only [putAll,Act.put,List.setIfInBounds_toArray,List.set_cons_zero,List.set_cons_succ];rfl)) (hJ4_9 (v565,gb570) _ ⟨hHeld,(rU HO566.out),(blkU BK555.out),(blkU BK556.out),(blkU BK570.out),GW570.out,GE570.out,NB555_570.out,NB570_555.out,NB556_570.out,NB570_556.out,(by repeat (first|(with_reducible first|exact HB.out|apply below_alloc|apply pw_below_drewN|apply below_drew1|refine below_set ?_ GE555.out|refine below_set ?_ GE556.out|refine below_set ?_ GE570.out)|exact HB.out))⟩)
              ·
               skip
               rintro v559 w14 ⟨hS_,h0_,h1_,h2_,h3_⟩
               have n0_ : Aside0 (Kd.R (Kd.int .i64) 3 w14 w.heap.size (fun _ => True) v559 y558):=⟨h0_⟩
               have n1_ : Aside0 (w14.heap[gb555]? = some (.cells #[.slice A0_0 l0_0.length c0_0,.slice A0_1 l0_1.length c0_1,.slice A0_2 l0_2.length c0_2] 26 (0,0))):=⟨h1_⟩
               have n2_ : Aside0 (w14.heap[gb556]? = some (.cells #[.slice none 0 0,.slice none 0 0,.slice none 0 0] 26 (0,0))):=⟨h2_⟩
               have n3_ : Aside0 (Below w.heap.size w w14):=⟨h3_⟩;clear BK555 BK556 HB h0_ h1_ h2_ h3_;have HO560:=n0_;have BK555:=n1_;have BK556:=n2_;have HB:=n3_;clear n0_ n1_ n2_ n3_
               have hHeld : w14.cell? ⟨gb555,0,none⟩ = some (.slice A0_0 l0_0.length c0_0) ∧ w14.cell? ⟨gb555,1,none⟩ = some (.slice A0_1 l0_1.length c0_1) ∧ w14.cell? ⟨gb555,2,none⟩ = some (.slice A0_2 l0_2.length c0_2):=hS_
               refine norm_ (a':=?_) ?_ ?_;rotate_left
               ·
                simp only [putAll,Act.put,List.setIfInBounds_toArray,List.set_cons_zero,List.set_cons_succ]
                rfl
               refine three_ (i:=3) (j:=4) (k:=9) (Ni:=some 13) (Nj:=some 14) (Nk:=some 3) #[true,true,true,true,false,true,true,false,false,false,false] #[true,true,true,false,true,true,true,false,false,false,false] #[true,true,true,false,false,true,true,false,false,true,false] rfl rfl rfl rfl rfl rfl (three_of HT_.out (by kernel_rfl)) (by decide) (by decide) (by decide) (fun K hK => ?_) (fun K hK => ?_) (fun K hK => ?_)
               ·
                skip
                refine Kd.R_append_rows_step (Kd.int .i64) (w0:=w) w.heap.size (by rfl) (.tmp 10) (.tmp 12) 24 3 (.int .i64 0) 8 rfl Try.underlying24 info3 rfl (by decide) (by omega) v559 y558 l0_0 _ _ _ (fun _ => True) (fun _ => False) rfl rfl ?aO ?aR (fun _ _ h => h) (fun _ h => h.elim) ?aF ?aB ?aS ?aL ?_
                (case aR => exact cU (Kd.C_below HR0_0.out HB.out))
                (case aB => exact (by repeat (first|(with_reducible first|exact HB.out|apply below_alloc|apply pw_below_drewN|apply below_drew1|refine below_set ?_ GE555.out|refine below_set ?_ GE556.out)|exact HB.out)))
                (case aF => exact (fun _ _ => trivial))
                (case aO => exact (rU HO560.out))
                (case aS => exact (below_size (by repeat (first|(with_reducible first|exact HB.out|apply below_alloc|apply pw_below_drewN|apply below_drew1|refine below_set ?_ GE555.out|refine below_set ?_ GE556.out)|exact HB.out))))
                (case aL => have:=LMc4.out;omega);intro v562 w15 ho hb hg hat
                rw [← Ny561.out] at ho;have n0_:=Aside0.mk (blk_grown (g:=gb555) (o:=.cells #[.slice A0_0 l0_0.length c0_0,.slice A0_1 l0_1.length c0_1,.slice A0_2 l0_2.length c0_2] 26 (0,0)) (blkU BK555.out) hg (Kd.R_ne HO560.out BK555.out (by decide)));have n1_:=Aside0.mk (blk_grown (g:=gb556) (o:=.cells #[.slice none 0 0,.slice none 0 0,.slice none 0 0] 26 (0,0)) (blkU BK556.out) hg (Kd.R_ne HO560.out BK556.out (by decide)));have n2_:=Aside0.mk (hb);have n3_:=Aside0.mk (ho);clear BK555 BK556 HB HO560;have BK555:=n0_;have BK556:=n1_;have HB:=n2_;have HO563:=n3_;clear n0_ n1_ n2_ n3_ ho hb hg hat
                refine hK.out _ _ ⟨(blk_cell BK555.out 0).trans rfl,(blk_cell BK555.out 1).trans rfl,(blk_cell BK555.out 2).trans rfl⟩ (fun hHeld => ?_);clear hK K
                refine norm_ (a':=?_) ?_ ?_;rotate_left
                ·
                 show Act.put _ (some 13) _ = _
                 simp only [Act.put,List.setIfInBounds_toArray,List.set_cons_zero,List.set_cons_succ,i64_w,i32_w]
                 rfl
                exact norm_ (by first|(simp only [putAll,Act.put,List.setIfInBounds_toArray,List.set_cons_zero,List.set_cons_succ];done)|(simp only [putAll,Act.put,List.setIfInBounds_toArray,List.set_cons_zero,List.set_cons_succ];rfl)) (hJ0_3 (v559,v562) _ ⟨hHeld,(rU HO563.out),(blkU BK555.out),(blkU BK556.out),(by repeat (first|(with_reducible first|exact HB.out|apply below_alloc|apply pw_below_drewN|apply below_drew1|refine below_set ?_ GE555.out|refine below_set ?_ GE556.out)|exact HB.out))⟩)
               ·
                skip
                refine Kd.R_lit_step (Kd.int .i64) _ 3 ?hg (N:=14) ?hd (xs:=([] : List Int)) (inner:=[]) (ok:=fun _ => True) (okp:=fun _ => True) ?hr ?hp (fun _ hk => hk) trivial (Below.refl _ _) (Nat.le_refl _) (by simp) ?_;(case hd => rfl);(case hg => rfl);(case hr => first|(go_simp;done)|(go_simp;rfl));(case hp => exact (Reps.none _ _));intro v565 w15 ho16 hb hg_ hnew_;clear hg_ hnew_
                (first|rw [← Ny564.out] at ho16|(simp only [Int.reduceToNat] at ho16;rw [← Ny564.out] at ho16));have n0_:=Aside0.mk (Kd.R_elder' (rU HO560.out) (Kd.R_base ho16) hb);have n1_:=Aside0.mk (Kd.R_lower (Kd.R_new' ho16 (Kd.R_lt (rU HO560.out))) (below_size (by repeat (first|(with_reducible first|exact HB.out|apply below_alloc|apply pw_below_drewN|apply below_drew1|refine below_set ?_ GE555.out|refine below_set ?_ GE556.out)|exact HB.out))));have n2_:=Aside0.mk (blk_below (g:=gb555) (o:=.cells #[.slice A0_0 l0_0.length c0_0,.slice A0_1 l0_1.length c0_1,.slice A0_2 l0_2.length c0_2] 26 (0,0)) (blkU BK555.out) hb);have n3_:=Aside0.mk (blk_below (g:=gb556) (o:=.cells #[.slice none 0 0,.slice none 0 0,.slice none 0 0] 26 (0,0)) (blkU BK556.out) hb);have n4_:=Aside0.mk (below_step (by repeat (first|(with_reducible first|exact HB.out|apply below_alloc|apply pw_below_drewN|apply below_drew1|refine below_set ?_ GE555.out|refine below_set ?_ GE556.out)|exact HB.out)) hb);clear HO560 BK555 BK556
                clear HB;have HO560:=n0_;have HO566:=n1_;have BK555:=n2_;have BK556:=n3_;have HB:=n4_;clear n0_ n1_ n2_ n3_ n4_ hb ho16
                refine hK.out _ _ ⟨(blk_cell BK555.out 0).trans rfl,(blk_cell BK555.out 1).trans rfl,(blk_cell BK555.out 2).trans rfl⟩ (fun hHeld => ?_);clear hK K
                refine norm_ (a':=?_) ?_ ?_;rotate_left
                ·
                 show Act.put _ (some 14) _ = _
                 simp only [Act.put,List.setIfInBounds_toArray,List.set_cons_zero,List.set_cons_succ,i64_w,i32_w]
                 rfl
                exact norm_ (by first|(simp only [putAll,Act.put,List.setIfInBounds_toArray,List.set_cons_zero,List.set_cons_succ];done)|(simp only [putAll,Act.put,List.setIfInBounds_toArray,List.set_cons_zero,List.set_cons_succ];rfl)) (hJ0_4 (v559,v565) _ ⟨hHeld,(by (with_reducible repeat (first|apply Kd.R_alloc|apply Kd.R_drewN|apply Kd.R_drew));exact Kd.R_mono HO560.out (fun _ hk => hk.2)),(by (with_reducible repeat (first|apply Kd.R_alloc|apply Kd.R_drewN|apply Kd.R_drew));exact Kd.R_mono HO566.out (fun _ hk => hk.2)),(blkU BK555.out),(blkU BK556.out),(by repeat (first|(with_reducible first|exact HB.out|apply below_alloc|apply pw_below_drewN|apply below_drew1|refine below_set ?_ GE555.out|refine below_set ?_ GE556.out)|exact HB.out))⟩)
               ·
                skip
                refine box_step ?hg (N:=3) ?hd (cs:=#[.slice none 0 0,.slice none 0 0,.slice none 0 0]) (t:=26) ?hr ?_;(case hd => rfl);(case hg => rfl);(case hr => first|(go_simp;done)|(go_simp;rfl));intro gb570 hg w15 hbox hb;have n0_:=Aside0.mk (Kd.R_below (rU HO560.out) hb);have n1_:=Aside0.mk (blk_below (g:=gb555) (o:=.cells #[.slice A0_0 l0_0.length c0_0,.slice A0_1 l0_1.length c0_1,.slice A0_2 l0_2.length c0_2] 26 (0,0)) (blkU BK555.out) hb);have n2_:=Aside0.mk (blk_below (g:=gb556) (o:=.cells #[.slice none 0 0,.slice none 0 0,.slice none 0 0] 26 (0,0)) (blkU BK556.out) hb);have n3_:=Aside0.mk (below_step (by repeat (first|(with_reducible first|exact HB.out|apply below_alloc|apply pw_below_drewN|apply below_drew1|refine below_set ?_ GE555.out|refine below_set ?_ GE556.out)|exact HB.out)) hb);have n4_:=Aside0.mk (hbox);have n5_:=Aside0.mk ((by rw [hg];exact (below_size (by repeat (first|(with_reducible first|exact HB.out|apply below_alloc|apply pw_below_drewN|apply below_drew1|refine below_set ?_ GE555.out|refine below_set ?_ GE556.out)|exact HB.out))) : w.heap.size ≤ gb570))
                have n6_:=Aside0.mk ((by rw [hg];exact (below_size (by repeat (first|(with_reducible first|exact HB.out|apply below_alloc|apply pw_below_drewN|apply below_drew1|refine below_set ?_ GE555.out|refine below_set ?_ GE556.out)|exact HB.out))) : w.heap.size ≤ gb570));have n7_:=Aside0.mk ((by rw [hg];exact Nat.ne_of_lt (blk_lt (g:=gb555) (o:=.cells #[.slice A0_0 l0_0.length c0_0,.slice A0_1 l0_1.length c0_1,.slice A0_2 l0_2.length c0_2] 26 (0,0)) (blkU BK555.out)) : gb555 ≠ gb570));have n8_:=Aside0.mk ((by rw [hg];exact Nat.ne_of_gt (blk_lt (g:=gb555) (o:=.cells #[.slice A0_0 l0_0.length c0_0,.slice A0_1 l0_1.length c0_1,.slice A0_2 l0_2.length c0_2] 26 (0,0)) (blkU BK555.out)) : gb570 ≠ gb555));have n9_:=Aside0.mk ((by rw [hg];exact Nat.ne_of_lt (blk_lt (g:=gb556) (o:=.cells #[.slice none 0 0,.slice none 0 0,.slice none 0 0] 26 (0,0)) (blkU BK556.out)) : gb556 ≠ gb570));have n10_:=Aside0.mk ((by rw [hg];exact Nat.ne_of_gt (blk_lt (g:=gb556) (o:=.cells #[.slice none 0 0,.slice none 0 0,.slice none 0 0] 26 (0,0)) (blkU BK556.out)) : gb570 ≠ gb556))
                clear HO560 BK555 BK556 HB;have HO560:=n0_;have BK555:=n1_;have BK556:=n2_;have HB:=n3_;have BK570:=n4_;have GW570:=n5_;have GE570:=n6_;have NB555_570:=n7_;have NB570_555:=n8_;have NB556_570:=n9_;have NB570_556:=n10_;clear n0_ n1_ n2_ n3_ n4_ n5_ n6_ n7_ n8_ n9_ n10_ hb hbox hg
                refine hK.out _ _ ⟨(blk_cell BK555.out 0).trans rfl,(blk_cell BK555.out 1).trans rfl,(blk_cell BK555.out 2).trans rfl⟩ (fun hHeld => ?_);clear hK K
                refine norm_ (a':=?_) ?_ ?_;rotate_left
                ·
                 show Act.put _ (some 3) _ = _
                 simp only [Act.put,List.setIfInBounds_toArray,List.set_cons_zero,List.set_cons_succ,i64_w,i32_w]
                 rfl
                exact norm_ (by first|(simp only [putAll,Act.put,List.setIfInBounds_toArray,List.set_cons_zero,List.set_cons_succ];done)|(simp only [putAll,Act.put,List.setIfInBounds_toArray,List.set_cons_zero,List.set_cons_succ];rfl)) (hJ0_9 (v559,gb570) _ ⟨hHeld,(rU HO560.out),(blkU BK555.out),(blkU BK556.out),(blkU BK570.out),GW570.out,GE570.out,NB555_570.out,NB570_555.out,NB556_570.out,NB570_556.out,(by repeat (first|(with_reducible first|exact HB.out|apply below_alloc|apply pw_below_drewN|apply below_drew1|refine below_set ?_ GE555.out|refine below_set ?_ GE556.out|refine below_set ?_ GE570.out)|exact HB.out))⟩)
             ·
              skip
              rintro ⟨v565,gb570⟩ w15 ⟨hS_,h0_,h1_,h2_,h3_,h4_,h5_,h6_,h7_,h8_,h9_,h10_⟩
              have n0_ : Aside0 (Kd.R (Kd.int .i64) 3 w15 w.heap.size (fun _ => True) v565 y564):=⟨h0_⟩
              have n1_ : Aside0 (w15.heap[gb555]? = some (.cells #[.slice A0_0 l0_0.length c0_0,.slice A0_1 l0_1.length c0_1,.slice A0_2 l0_2.length c0_2] 26 (0,0))):=⟨h1_⟩
              have n2_ : Aside0 (w15.heap[gb556]? = some (.cells #[.slice none 0 0,.slice none 0 0,.slice none 0 0] 26 (0,0))):=⟨h2_⟩
              have n3_ : Aside0 (w15.heap[gb570]? = some (.cells #[.slice none 0 0,.slice none 0 0,.slice none 0 0] 26 (0,0))):=⟨h3_⟩
              have n4_ : Aside0 (w.heap.size ≤ gb570):=⟨h4_⟩
              have n5_ : Aside0 (w.heap.size ≤ gb570):=⟨h5_⟩
              have n6_ : Aside0 (gb555 ≠ gb570):=⟨h6_⟩
              have n7_ : Aside0 (gb570 ≠ gb555):=⟨h7_⟩
              have n8_ : Aside0 (gb556 ≠ gb570):=⟨h8_⟩
              have n9_ : Aside0 (gb570 ≠ gb556):=⟨h9_⟩
              have n10_ : Aside0 (Below w.heap.size w w15):=⟨h10_⟩;clear BK555 BK556 HB h0_ h1_ h2_ h3_ h4_ h5_ h6_ h7_ h8_ h9_ h10_;have HO566:=n0_;have BK555:=n1_;have BK556:=n2_;have BK570:=n3_;have GW570:=n4_;have GE570:=n5_;have NB555_570:=n6_;have NB570_555:=n7_;have NB556_570:=n8_;have NB570_556:=n9_;have HB:=n10_;clear n0_ n1_ n2_ n3_ n4_ n5_ n6_ n7_ n8_ n9_ n10_
              have hHeld : w15.cell? ⟨gb555,0,none⟩ = some (.slice A0_0 l0_0.length c0_0) ∧ w15.cell? ⟨gb555,1,none⟩ = some (.slice A0_1 l0_1.length c0_1) ∧ w15.cell? ⟨gb555,2,none⟩ = some (.slice A0_2 l0_2.length c0_2):=hS_
              refine norm_ (a':=?_) ?_ ?_;rotate_left
              ·
               simp only [putAll,Act.put,List.setIfInBounds_toArray,List.set_cons_zero,List.set_cons_succ]
               rfl
              refine one_ (i:=0) (N:=some 10) #[true,true,true,false,true,true,true,false,false,true,false] rfl rfl (one_of HT_.out (by kernel_rfl)) (by decide) (fun K hK => ?_)
              refine Kd.R_lit_step (Kd.int .i64) _ 3 ?hg (N:=10) ?hd (xs:=([] : List Int)) (inner:=[]) (ok:=fun _ => True) (okp:=fun _ => True) ?hr ?hp (fun _ hk => hk) trivial (Below.refl _ _) (Nat.le_refl _) (by simp) ?_;(case hd => rfl);(case hg => rfl);(case hr => first|(go_simp;done)|(go_simp;rfl));(case hp => exact (Reps.none _ _));intro v559 w16 ho17 hb hg_ hnew_;clear hg_ hnew_
              (first|rw [← Ny558.out] at ho17|(simp only [Int.reduceToNat] at ho17;rw [← Ny558.out] at ho17));have n0_:=Aside0.mk (Kd.R_elder' (rU HO566.out) (Kd.R_base ho17) hb);have n1_:=Aside0.mk (Kd.R_lower (Kd.R_new' ho17 (Kd.R_lt (rU HO566.out))) (below_size (by repeat (first|(with_reducible first|exact HB.out|apply below_alloc|apply pw_below_drewN|apply below_drew1|refine below_set ?_ GE555.out|refine below_set ?_ GE556.out|refine below_set ?_ GE570.out)|exact HB.out))));have n2_:=Aside0.mk (blk_below (g:=gb555) (o:=.cells #[.slice A0_0 l0_0.length c0_0,.slice A0_1 l0_1.length c0_1,.slice A0_2 l0_2.length c0_2] 26 (0,0)) (blkU BK555.out) hb);have n3_:=Aside0.mk (blk_below (g:=gb556) (o:=.cells #[.slice none 0 0,.slice none 0 0,.slice none 0 0] 26 (0,0)) (blkU BK556.out) hb);have n4_:=Aside0.mk (blk_below (g:=gb570) (o:=.cells #[.slice none 0 0,.slice none 0 0,.slice none 0 0] 26 (0,0)) (blkU BK570.out) hb)
              have n5_:=Aside0.mk (below_step (by repeat (first|(with_reducible first|exact HB.out|apply below_alloc|apply pw_below_drewN|apply below_drew1|refine below_set ?_ GE555.out|refine below_set ?_ GE556.out|refine below_set ?_ GE570.out)|exact HB.out)) hb);clear HO566 BK555 BK556 BK570 HB;have HO566:=n0_;have HO560:=n1_;have BK555:=n2_;have BK556:=n3_;have BK570:=n4_;have HB:=n5_;clear n0_ n1_ n2_ n3_ n4_ n5_ hb ho17
              refine hK.out _ _ ⟨(blk_cell BK555.out 0).trans rfl,(blk_cell BK555.out 1).trans rfl,(blk_cell BK555.out 2).trans rfl⟩ (fun hHeld => ?_);clear hK K
              refine norm_ (a':=?_) ?_ ?_;rotate_left
              ·
               show Act.put _ (some 10) _ = _
               simp only [Act.put,List.setIfInBounds_toArray,List.set_cons_zero,List.set_cons_succ,i64_w,i32_w]
               rfl
              exact norm_ (by first|(simp only [putAll,Act.put,List.setIfInBounds_toArray,List.set_cons_zero,List.set_cons_succ];done)|(simp only [putAll,Act.put,List.setIfInBounds_toArray,List.set_cons_zero,List.set_cons_succ];rfl)) (hJ0_4_9 (v559,v565,gb570) _ ⟨hHeld,(by (with_reducible repeat (first|apply Kd.R_alloc|apply Kd.R_drewN|apply Kd.R_drew));exact Kd.R_mono HO560.out (fun _ hk => hk.2)),(by (with_reducible repeat (first|apply Kd.R_alloc|apply Kd.R_drewN|apply Kd.R_drew));exact Kd.R_mono HO566.out (fun _ hk => hk.2)),(blkU BK555.out),(blkU BK556.out),(blkU BK570.out),GW570.out,GE570.out,NB555_570.out,NB570_555.out,NB556_570.out,NB570_556.out,(by repeat (first|(with_reducible first|exact HB.out|apply below_alloc|apply pw_below_drewN|apply below_drew1|refine below_set ?_ GE555.out|refine below_set ?_ GE556.out|refine below_set ?_ GE570.out)|exact HB.out))⟩)
            ·
             skip
             rintro ⟨v559,gb570⟩ w15 ⟨hS_,h0_,h1_,h2_,h3_,h4_,h5_,h6_,h7_,h8_,h9_,h10_⟩
             have n0_ : Aside0 (Kd.R (Kd.int .i64) 3 w15 w.heap.size (fun _ => True) v559 y558):=⟨h0_⟩
             have n1_ : Aside0 (w15.heap[gb555]? = some (.cells #[.slice A0_0 l0_0.length c0_0,.slice A0_1 l0_1.length c0_1,.slice A0_2 l0_2.length c0_2] 26 (0,0))):=⟨h1_⟩
             have n2_ : Aside0 (w15.heap[gb556]? = some (.cells #[.slice none 0 0,.slice none 0 0,.slice none 0 0] 26 (0,0))):=⟨h2_⟩
             have n3_ : Aside0 (w15.heap[gb570]? = some (.cells #[.slice none 0 0,.slice none 0 0,.slice none 0 0] 26 (0,0))):=⟨h3_⟩
             have n4_ : Aside0 (w.heap.size ≤ gb570):=⟨h4_⟩
             have n5_ : Aside0 (w.heap.size ≤ gb570):=⟨h5_⟩
             have n6_ : Aside0 (gb555 ≠ gb570):=⟨h6_⟩
             have n7_ : Aside0 (gb570 ≠ gb555):=⟨h7_⟩
             have n8_ : Aside0 (gb556 ≠ gb570):=⟨h8_⟩
             have n9_ : Aside0 (gb570 ≠ gb556):=⟨h9_⟩
             have n10_ : Aside0 (Below w.heap.size w w15):=⟨h10_⟩;clear BK555 BK556 HB h0_ h1_ h2_ h3_ h4_ h5_ h6_ h7_ h8_ h9_ h10_;have HO560:=n0_;have BK555:=n1_;have BK556:=n2_;have BK570:=n3_;have GW570:=n4_;have GE570:=n5_;have NB555_570:=n6_;have NB570_555:=n7_;have NB556_570:=n8_;have NB570_556:=n9_;have HB:=n10_;clear n0_ n1_ n2_ n3_ n4_ n5_ n6_ n7_ n8_ n9_ n10_
             have hHeld : w15.cell? ⟨gb555,0,none⟩ = some (.slice A0_0 l0_0.length c0_0) ∧ w15.cell? ⟨gb555,1,none⟩ = some (.slice A0_1 l0_1.length c0_1) ∧ w15.cell? ⟨gb555,2,none⟩ = some (.slice A0_2 l0_2.length c0_2):=hS_
             refine norm_ (a':=?_) ?_ ?_;rotate_left
             ·
              simp only [putAll,Act.put,List.setIfInBounds_toArray,List.set_cons_zero,List.set_cons_succ]
              rfl
             refine two_ (i:=3) (j:=4) (Ni:=some 13) (Nj:=some 14) #[true,true,true,true,false,true,true,false,false,true,false] #[true,true,true,false,true,true,true,false,false,true,false] rfl rfl rfl rfl (two_of HT_.out (by kernel_rfl)) (by decide) (by decide) (fun K hK => ?_) (fun K hK => ?_)
             ·
              skip
              refine Kd.R_append_rows_step (Kd.int .i64) (w0:=w) w.heap.size (by rfl) (.tmp 10) (.tmp 12) 24 3 (.int .i64 0) 8 rfl Try.underlying24 info3 rfl (by decide) (by omega) v559 y558 l0_0 _ _ _ (fun _ => True) (fun _ => False) rfl rfl ?aO ?aR (fun _ _ h => h) (fun _ h => h.elim) ?aF ?aB ?aS ?aL ?_
              (case aR => exact cU (Kd.C_below HR0_0.out HB.out))
              (case aB => exact (by repeat (first|(with_reducible first|exact HB.out|apply below_alloc|apply pw_below_drewN|apply below_drew1|refine below_set ?_ GE555.out|refine below_set ?_ GE556.out|refine below_set ?_ GE570.out)|exact HB.out)))
              (case aF => exact (fun _ _ => trivial))
              (case aO => exact (rU HO560.out))
              (case aS => exact (below_size (by repeat (first|(with_reducible first|exact HB.out|apply below_alloc|apply pw_below_drewN|apply below_drew1|refine below_set ?_ GE555.out|refine below_set ?_ GE556.out|refine below_set ?_ GE570.out)|exact HB.out))))
              (case aL => have:=LMc4.out;omega);intro v562 w16 ho hb hg hat
              rw [← Ny561.out] at ho;have n0_:=Aside0.mk (blk_grown (g:=gb555) (o:=.cells #[.slice A0_0 l0_0.length c0_0,.slice A0_1 l0_1.length c0_1,.slice A0_2 l0_2.length c0_2] 26 (0,0)) (blkU BK555.out) hg (Kd.R_ne HO560.out BK555.out (by decide)));have n1_:=Aside0.mk (blk_grown (g:=gb556) (o:=.cells #[.slice none 0 0,.slice none 0 0,.slice none 0 0] 26 (0,0)) (blkU BK556.out) hg (Kd.R_ne HO560.out BK556.out (by decide)));have n2_:=Aside0.mk (blk_grown (g:=gb570) (o:=.cells #[.slice none 0 0,.slice none 0 0,.slice none 0 0] 26 (0,0)) (blkU BK570.out) hg (Kd.R_ne HO560.out BK570.out (by decide)));have n3_:=Aside0.mk (hb);have n4_:=Aside0.mk (ho);clear BK555 BK556 BK570 HB HO560;have BK555:=n0_;have BK556:=n1_;have BK570:=n2_;have HB:=n3_;have HO563:=n4_;clear n0_ n1_ n2_ n3_ n4_ ho hb hg hat
              refine hK.out _ _ ⟨(blk_cell BK555.out 0).trans rfl,(blk_cell BK555.out 1).trans rfl,(blk_cell BK555.out 2).trans rfl⟩ (fun hHeld => ?_);clear hK K
              refine norm_ (a':=?_) ?_ ?_;rotate_left
              ·
               show Act.put _ (some 13) _ = _
               simp only [Act.put,List.setIfInBounds_toArray,List.set_cons_zero,List.set_cons_succ,i64_w,i32_w]
               rfl
              exact norm_ (by first|(simp only [putAll,Act.put,List.setIfInBounds_toArray,List.set_cons_zero,List.set_cons_succ];done)|(simp only [putAll,Act.put,List.setIfInBounds_toArray,List.set_cons_zero,List.set_cons_succ];rfl)) (hJ0_3_9 (v559,v562,gb570) _ ⟨hHeld,(rU HO563.out),(blkU BK555.out),(blkU BK556.out),(blkU BK570.out),GW570.out,GE570.out,NB555_570.out,NB570_555.out,NB556_570.out,NB570_556.out,(by repeat (first|(with_reducible first|exact HB.out|apply below_alloc|apply pw_below_drewN|apply below_drew1|refine below_set ?_ GE555.out|refine below_set ?_ GE556.out|refine below_set ?_ GE570.out)|exact HB.out))⟩)
             ·
              skip
              refine Kd.R_lit_step (Kd.int .i64) _ 3 ?hg (N:=14) ?hd (xs:=([] : List Int)) (inner:=[]) (ok:=fun _ => True) (okp:=fun _ => True) ?hr ?hp (fun _ hk => hk) trivial (Below.refl _ _) (Nat.le_refl _) (by simp) ?_;(case hd => rfl);(case hg => rfl);(case hr => first|(go_simp;done)|(go_simp;rfl));(case hp => exact (Reps.none _ _));intro v565 w16 ho17 hb hg_ hnew_;clear hg_ hnew_
              (first|rw [← Ny564.out] at ho17|(simp only [Int.reduceToNat] at ho17;rw [← Ny564.out] at ho17));have n0_:=Aside0.mk (Kd.R_elder' (rU HO560.out) (Kd.R_base ho17) hb);have n1_:=Aside0.mk (Kd.R_lower (Kd.R_new' ho17 (Kd.R_lt (rU HO560.out))) (below_size (by repeat (first|(with_reducible first|exact HB.out|apply below_alloc|apply pw_below_drewN|apply below_drew1|refine below_set ?_ GE555.out|refine below_set ?_ GE556.out|refine below_set ?_ GE570.out)|exact HB.out))));have n2_:=Aside0.mk (blk_below (g:=gb555) (o:=.cells #[.slice A0_0 l0_0.length c0_0,.slice A0_1 l0_1.length c0_1,.slice A0_2 l0_2.length c0_2] 26 (0,0)) (blkU BK555.out) hb);have n3_:=Aside0.mk (blk_below (g:=gb556) (o:=.cells #[.slice none 0 0,.slice none 0 0,.slice none 0 0] 26 (0,0)) (blkU BK556.out) hb);have n4_:=Aside0.mk (blk_below (g:=gb570) (o:=.cells #[.slice none 0 0,.slice none 0 0,.slice none 0 0] 26 (0,0)) (blkU BK570.out) hb)
              have n5_:=Aside0.mk (below_step (by repeat (first|(with_reducible first|exact HB.out|apply below_alloc|apply pw_below_drewN|apply below_drew1|refine below_set ?_ GE555.out|refine below_set ?_ GE556.out|refine below_set ?_ GE570.out)|exact HB.out)) hb);clear HO560 BK555 BK556 BK570 HB;have HO560:=n0_;have HO566:=n1_;have BK555:=n2_;have BK556:=n3_;have BK570:=n4_;have HB:=n5_;clear n0_ n1_ n2_ n3_ n4_ n5_ hb ho17
              refine hK.out _ _ ⟨(blk_cell BK555.out 0).trans rfl,(blk_cell BK555.out 1).trans rfl,(blk_cell BK555.out 2).trans rfl⟩ (fun hHeld => ?_);clear hK K
              refine norm_ (a':=?_) ?_ ?_;rotate_left
              ·
               show Act.put _ (some 14) _ = _
               simp only [Act.put,List.setIfInBounds_toArray,List.set_cons_zero,List.set_cons_succ,i64_w,i32_w]
               rfl
              exact norm_ (by first|(simp only [putAll,Act.put,List.setIfInBounds_toArray,List.set_cons_zero,List.set_cons_succ];done)|(simp only [putAll,Act.put,List.setIfInBounds_toArray,List.set_cons_zero,List.set_cons_succ];rfl)) (hJ0_4_9 (v559,v565,gb570) _ ⟨hHeld,(by (with_reducible repeat (first|apply Kd.R_alloc|apply Kd.R_drewN|apply Kd.R_drew));exact Kd.R_mono HO560.out (fun _ hk => hk.2)),(by (with_reducible repeat (first|apply Kd.R_alloc|apply Kd.R_drewN|apply Kd.R_drew));exact Kd.R_mono HO566.out (fun _ hk => hk.2)),(blkU BK555.out),(blkU BK556.out),(blkU BK570.out),GW570.out,GE570.out,NB555_570.out,NB570_555.out,NB556_570.out,NB570_556.out,(by repeat (first|(with_reducible first|exact HB.out|apply below_alloc|apply pw_below_drewN|apply below_drew1|refine below_set ?_ GE555.out|refine below_set ?_ GE556.out|refine below_set ?_ GE570.out)|exact HB.out))⟩)
           ·
            skip
            rintro ⟨v559,v565⟩ w16 ⟨hS_,h0_,h1_,h2_,h3_,h4_⟩
            have n0_ : Aside0 (Kd.R (Kd.int .i64) 3 w16 w.heap.size (fun k_ => some k_ ≠ (v565 : Value).ownBlock) v559 y558):=⟨h0_⟩
            have n1_ : Aside0 (Kd.R (Kd.int .i64) 3 w16 w.heap.size (fun k_ => some k_ ≠ (v559 : Value).ownBlock) v565 y564):=⟨h1_⟩
            have n2_ : Aside0 (w16.heap[gb555]? = some (.cells #[.slice A0_0 l0_0.length c0_0,.slice A0_1 l0_1.length c0_1,.slice A0_2 l0_2.length c0_2] 26 (0,0))):=⟨h2_⟩
            have n3_ : Aside0 (w16.heap[gb556]? = some (.cells #[.slice none 0 0,.slice none 0 0,.slice none 0 0] 26 (0,0))):=⟨h3_⟩
            have n4_ : Aside0 (Below w.heap.size w w16):=⟨h4_⟩;clear BK555 BK556 HB h0_ h1_ h2_ h3_ h4_;have HO560:=n0_;have HO566:=n1_;have BK555:=n2_;have BK556:=n3_;have HB:=n4_;clear n0_ n1_ n2_ n3_ n4_
            have hHeld : w16.cell? ⟨gb555,0,none⟩ = some (.slice A0_0 l0_0.length c0_0) ∧ w16.cell? ⟨gb555,1,none⟩ = some (.slice A0_1 l0_1.length c0_1) ∧ w16.cell? ⟨gb555,2,none⟩ = some (.slice A0_2 l0_2.length c0_2):=hS_
            refine norm_ (a':=?_) ?_ ?_;rotate_left
            ·
             simp only [putAll,Act.put,List.setIfInBounds_toArray,List.set_cons_zero,List.set_cons_succ]
             rfl
            refine two_ (i:=3) (j:=9) (Ni:=some 13) (Nj:=some 3) #[true,true,true,true,true,true,true,false,false,false,false] #[true,true,true,false,true,true,true,false,false,true,false] rfl rfl rfl rfl (two_of HT_.out (by kernel_rfl)) (by decide) (by decide) (fun K hK => ?_) (fun K hK => ?_)
            ·
             skip
             refine Kd.R_append_rows_step (Kd.int .i64) (w0:=w) w.heap.size (by rfl) (.tmp 10) (.tmp 12) 24 3 (.int .i64 0) 8 rfl Try.underlying24 info3 rfl (by decide) (by omega) v559 y558 l0_0 _ _ _ (fun k_ => some k_ ≠ (v565 : Value).ownBlock) (fun _ => False) rfl rfl ?aO ?aR (fun _ _ h => h) (fun _ h => h.elim) ?aF ?aB ?aS ?aL ?_
             (case aR => exact cU (Kd.C_below HR0_0.out HB.out))
             (case aB => exact (by repeat (first|(with_reducible first|exact HB.out|apply below_alloc|apply pw_below_drewN|apply below_drew1|refine below_set ?_ GE555.out|refine below_set ?_ GE556.out)|exact HB.out)))
             (case aF => exact (fun k_ hk => Kd.fresh' (Kd.R_lt (rU HO566.out)) k_ hk))
             (case aO => exact (rU HO560.out))
             (case aS => exact (below_size (by repeat (first|(with_reducible first|exact HB.out|apply below_alloc|apply pw_below_drewN|apply below_drew1|refine below_set ?_ GE555.out|refine below_set ?_ GE556.out)|exact HB.out))))
             (case aL => have:=LMc4.out;omega);intro v562 w17 ho hb hg hat
             rw [← Ny561.out] at ho;have n0_:=Aside0.mk (blk_grown (g:=gb555) (o:=.cells #[.slice A0_0 l0_0.length c0_0,.slice A0_1 l0_1.length c0_1,.slice A0_2 l0_2.length c0_2] 26 (0,0)) (blkU BK555.out) hg (Kd.R_ne HO560.out BK555.out (by decide)));have n1_:=Aside0.mk (blk_grown (g:=gb556) (o:=.cells #[.slice none 0 0,.slice none 0 0,.slice none 0 0] 26 (0,0)) (blkU BK556.out) hg (Kd.R_ne HO560.out BK556.out (by decide)));have n2_:=Aside0.mk (Kd.R_after (ok:=(fun _ => True)) (by (with_reducible repeat (first|apply Kd.R_alloc|apply Kd.R_drewN|apply Kd.R_drew));exact Kd.R_mono HO566.out (fun _ hk => ⟨trivial,hk⟩)) hg hat);have n3_:=Aside0.mk (hb);have n4_:=Aside0.mk (ho);clear BK555 BK556 HO566 HB HO560;have BK555:=n0_;have BK556:=n1_;have HO566:=n2_;have HB:=n3_;have HO563:=n4_;clear n0_ n1_ n2_ n3_ n4_ ho hb hg hat
             refine hK.out _ _ ⟨(blk_cell BK555.out 0).trans rfl,(blk_cell BK555.out 1).trans rfl,(blk_cell BK555.out 2).trans rfl⟩ (fun hHeld => ?_);clear hK K
             refine norm_ (a':=?_) ?_ ?_;rotate_left
             ·
              show Act.put _ (some 13) _ = _
              simp only [Act.put,List.setIfInBounds_toArray,List.set_cons_zero,List.set_cons_succ,i64_w,i32_w]
              rfl
             exact norm_ (by first|(simp only [putAll,Act.put,List.setIfInBounds_toArray,List.set_cons_zero,List.set_cons_succ];done)|(simp only [putAll,Act.put,List.setIfInBounds_toArray,List.set_cons_zero,List.set_cons_succ];rfl)) (hJ0_3_4 (v559,v562,v565) _ ⟨hHeld,(rU HO563.out),(by (with_reducible repeat (first|apply Kd.R_alloc|apply Kd.R_drewN|apply Kd.R_drew));exact Kd.R_mono HO566.out (fun _ hk => hk.2)),(blkU BK555.out),(blkU BK556.out),(by repeat (first|(with_reducible first|exact HB.out|apply below_alloc|apply pw_below_drewN|apply below_drew1|refine below_set ?_ GE555.out|refine below_set ?_ GE556.out)|exact HB.out))⟩)
            ·
             skip
             refine box_step ?hg (N:=3) ?hd (cs:=#[.slice none 0 0,.slice none 0 0,.slice none 0 0]) (t:=26) ?hr ?_;(case hd => rfl);(case hg => rfl);(case hr => first|(go_simp;done)|(go_simp;rfl));intro gb570 hg w17 hbox hb;have n0_:=Aside0.mk (Kd.R_below (rU HO560.out) hb);have n1_:=Aside0.mk (Kd.R_below (rU HO566.out) hb);have n2_:=Aside0.mk (blk_below (g:=gb555) (o:=.cells #[.slice A0_0 l0_0.length c0_0,.slice A0_1 l0_1.length c0_1,.slice A0_2 l0_2.length c0_2] 26 (0,0)) (blkU BK555.out) hb);have n3_:=Aside0.mk (blk_below (g:=gb556) (o:=.cells #[.slice none 0 0,.slice none 0 0,.slice none 0 0] 26 (0,0)) (blkU BK556.out) hb);have n4_:=Aside0.mk (below_step (by repeat (first|(with_reducible first|exact HB.out|apply below_alloc|apply pw_below_drewN|apply below_drew1|refine below_set ?_ GE555.out|refine below_set ?_ GE556.out)|exact HB.out)) hb);have n5_:=Aside0.mk (hbox);have n6_:=Aside0.mk ((by rw [hg];exact (below_size (by repeat (first|(with_reducible first|exact HB.out|apply below_alloc|apply pw_below_drewN|apply below_drew1|refine below_set ?_ GE555.out|refine below_set ?_ GE556.out)|exact HB.out))) : w.heap.size ≤ gb570))
             have n7_:=Aside0.mk ((by rw [hg];exact (below_size (by repeat (first|(with_reducible first|exact HB.out|apply below_alloc|apply pw_below_drewN|apply below_drew1|refine below_set ?_ GE555.out|refine below_set ?_ GE556.out)|exact HB.out))) : w.heap.size ≤ gb570));have n8_:=Aside0.mk ((by rw [hg];exact Nat.ne_of_lt (blk_lt (g:=gb555) (o:=.cells #[.slice A0_0 l0_0.length c0_0,.slice A0_1 l0_1.length c0_1,.slice A0_2 l0_2.length c0_2] 26 (0,0)) (blkU BK555.out)) : gb555 ≠ gb570));have n9_:=Aside0.mk ((by rw [hg];exact Nat.ne_of_gt (blk_lt (g:=gb555) (o:=.cells #[.slice A0_0 l0_0.length c0_0,.slice A0_1 l0_1.length c0_1,.slice A0_2 l0_2.length c0_2] 26 (0,0)) (blkU BK555.out)) : gb570 ≠ gb555));have n10_:=Aside0.mk ((by rw [hg];exact Nat.ne_of_lt (blk_lt (g:=gb556) (o:=.cells #[.slice none 0 0,.slice none 0 0,.slice none 0 0] 26 (0,0)) (blkU BK556.out)) : gb556 ≠ gb570));have n11_:=Aside0.mk ((by rw [hg];exact Nat.ne_of_gt (blk_lt (g:=gb556) (o:=.cells #[.slice none 0 0,.slice none 0 0,.slice none 0 0] 26 (0,0)) (blkU BK556.out)) : gb570 ≠ gb556))
             clear HO560 HO566 BK555 BK556 HB;have HO560:=n0_;have HO566:=n1_;have BK555:=n2_;have BK556:=n3_;have HB:=n4_;have BK570:=n5_;have GW570:=n6_;have GE570:=n7_;have NB555_570:=n8_;have NB570_555:=n9_;have NB556_570:=n10_;have NB570_556:=n11_;clear n0_ n1_ n2_ n3_ n4_ n5_ n6_ n7_ n8_ n9_ n10_ n11_ hb hbox hg
             refine hK.out _ _ ⟨(blk_cell BK555.out 0).trans rfl,(blk_cell BK555.out 1).trans rfl,(blk_cell BK555.out 2).trans rfl⟩ (fun hHeld => ?_);clear hK K
             refine norm_ (a':=?_) ?_ ?_;rotate_left
             ·
              show Act.put _ (some 3) _ = _
              simp only [Act.put,List.setIfInBounds_toArray,List.set_cons_zero,List.set_cons_succ,i64_w,i32_w]
              rfl
             exact norm_ (by first|(simp only [putAll,Act.put,List.setIfInBounds_toArray,List.set_cons_zero,List.set_cons_succ];done)|(simp only [putAll,Act.put,List.setIfInBounds_toArray,List.set_cons_zero,List.set_cons_succ];rfl)) (hJ0_4_9 (v559,v565,gb570) _ ⟨hHeld,(rU HO560.out),(rU HO566.out),(blkU BK555.out),(blkU BK556.out),(blkU BK570.out),GW570.out,GE570.out,NB555_570.out,NB570_555.out,NB556_570.out,NB570_556.out,(by repeat (first|(with_reducible first|exact HB.out|apply below_alloc|apply pw_below_drewN|apply below_drew1|refine below_set ?_ GE555.out|refine below_set ?_ GE556.out|refine below_set ?_ GE570.out)|exact HB.out))⟩)
          ·
           skip
           rintro ⟨v559,v562⟩ w15 ⟨hS_,h0_,h1_,h2_,h3_⟩
           have n0_ : Aside0 (Kd.R (Kd.int .i64) 3 w15 w.heap.size (fun _ => True) v562 y561):=⟨h0_⟩
           have n1_ : Aside0 (w15.heap[gb555]? = some (.cells #[.slice A0_0 l0_0.length c0_0,.slice A0_1 l0_1.length c0_1,.slice A0_2 l0_2.length c0_2] 26 (0,0))):=⟨h1_⟩
           have n2_ : Aside0 (w15.heap[gb556]? = some (.cells #[.slice none 0 0,.slice none 0 0,.slice none 0 0] 26 (0,0))):=⟨h2_⟩
           have n3_ : Aside0 (Below w.heap.size w w15):=⟨h3_⟩;clear BK555 BK556 HB h0_ h1_ h2_ h3_;have HO563:=n0_;have BK555:=n1_;have BK556:=n2_;have HB:=n3_;clear n0_ n1_ n2_ n3_
           have hHeld : w15.cell? ⟨gb555,0,none⟩ = some (.slice A0_0 l0_0.length c0_0) ∧ w15.cell? ⟨gb555,1,none⟩ = some (.slice A0_1 l0_1.length c0_1) ∧ w15.cell? ⟨gb555,2,none⟩ = some (.slice A0_2 l0_2.length c0_2):=hS_
           refine norm_ (a':=?_) ?_ ?_;rotate_left
           ·
            simp only [putAll,Act.put,List.setIfInBounds_toArray,List.set_cons_zero,List.set_cons_succ]
            rfl
           refine two_ (i:=4) (j:=9) (Ni:=some 14) (Nj:=some 3) #[true,true,true,true,true,true,true,false,false,false,false] #[true,true,true,true,false,true,true,false,false,true,false] rfl rfl rfl rfl (two_of HT_.out (by kernel_rfl)) (by decide) (by decide) (fun K hK => ?_) (fun K hK => ?_)
           ·
            skip
            refine Kd.R_lit_step (Kd.int .i64) _ 3 ?hg (N:=14) ?hd (xs:=([] : List Int)) (inner:=[]) (ok:=fun _ => True) (okp:=fun _ => True) ?hr ?hp (fun _ hk => hk) trivial (Below.refl _ _) (Nat.le_refl _) (by simp) ?_;(case hd => rfl);(case hg => rfl);(case hr => first|(go_simp;done)|(go_simp;rfl));(case hp => exact (Reps.none _ _));intro v565 w16 ho17 hb hg_ hnew_;clear hg_ hnew_
            (first|rw [← Ny564.out] at ho17|(simp only [Int.reduceToNat] at ho17;rw [← Ny564.out] at ho17));have n0_:=Aside0.mk (Kd.R_elder' (rU HO563.out) (Kd.R_base ho17) hb);have n1_:=Aside0.mk (Kd.R_lower (Kd.R_new' ho17 (Kd.R_lt (rU HO563.out))) (below_size (by repeat (first|(with_reducible first|exact HB.out|apply below_alloc|apply pw_below_drewN|apply below_drew1|refine below_set ?_ GE555.out|refine below_set ?_ GE556.out)|exact HB.out))));have n2_:=Aside0.mk (blk_below (g:=gb555) (o:=.cells #[.slice A0_0 l0_0.length c0_0,.slice A0_1 l0_1.length c0_1,.slice A0_2 l0_2.length c0_2] 26 (0,0)) (blkU BK555.out) hb);have n3_:=Aside0.mk (blk_below (g:=gb556) (o:=.cells #[.slice none 0 0,.slice none 0 0,.slice none 0 0] 26 (0,0)) (blkU BK556.out) hb);have n4_:=Aside0.mk (below_step (by repeat (first|(with_reducible first|exact HB.out|apply below_alloc|apply pw_below_drewN|apply below_drew1|refine below_set ?_ GE555.out|refine below_set ?_ GE556.out)|exact HB.out)) hb);clear HO563 BK555 BK556
            clear HB;have HO563:=n0_;have HO566:=n1_;have BK555:=n2_;have BK556:=n3_;have HB:=n4_;clear n0_ n1_ n2_ n3_ n4_ hb ho17
            refine hK.out _ _ ⟨(blk_cell BK555.out 0).trans rfl,(blk_cell BK555.out 1).trans rfl,(blk_cell BK555.out 2).trans rfl⟩ (fun hHeld => ?_);clear hK K
            refine norm_ (a':=?_) ?_ ?_;rotate_left
            ·
             show Act.put _ (some 14) _ = _
             simp only [Act.put,List.setIfInBounds_toArray,List.set_cons_zero,List.set_cons_succ,i64_w,i32_w]
             rfl
            exact norm_ (by first|(simp only [putAll,Act.put,List.setIfInBounds_toArray,List.set_cons_zero,List.set_cons_succ];done)|(simp only [putAll,Act.put,List.setIfInBounds_toArray,List.set_cons_zero,List.set_cons_succ];rfl)) (hJ0_3_4 (v559,v562,v565) _ ⟨hHeld,(by (with_reducible repeat (first|apply Kd.R_alloc|apply Kd.R_drewN|apply Kd.R_drew));exact Kd.R_mono HO563.out (fun _ hk => hk.2)),(by (with_reducible repeat (first|apply Kd.R_alloc|apply Kd.R_drewN|apply Kd.R_drew));exact Kd.R_mono HO566.out (fun _ hk => hk.2)),(blkU BK555.out),(blkU BK556.out),(by repeat (first|(with_reducible first|exact HB.out|apply below_alloc|apply pw_below_drewN|apply below_drew1|refine below_set ?_ GE555.out|refine below_set ?_ GE556.out)|exact HB.out))⟩)
           ·
            skip
            refine box_step ?hg (N:=3) ?hd (cs:=#[.slice none 0 0,.slice none 0 0,.slice none 0 0]) (t:=26) ?hr ?_;(case hd => rfl);(case hg => rfl);(case hr => first|(go_simp;done)|(go_simp;rfl));intro gb570 hg w16 hbox hb;have n0_:=Aside0.mk (Kd.R_below (rU HO563.out) hb);have n1_:=Aside0.mk (blk_below (g:=gb555) (o:=.cells #[.slice A0_0 l0_0.length c0_0,.slice A0_1 l0_1.length c0_1,.slice A0_2 l0_2.length c0_2] 26 (0,0)) (blkU BK555.out) hb);have n2_:=Aside0.mk (blk_below (g:=gb556) (o:=.cells #[.slice none 0 0,.slice none 0 0,.slice none 0 0] 26 (0,0)) (blkU BK556.out) hb);have n3_:=Aside0.mk (below_step (by repeat (first|(with_reducible first|exact HB.out|apply below_alloc|apply pw_below_drewN|apply below_drew1|refine below_set ?_ GE555.out|refine below_set ?_ GE556.out)|exact HB.out)) hb);have n4_:=Aside0.mk (hbox);have n5_:=Aside0.mk ((by rw [hg];exact (below_size (by repeat (first|(with_reducible first|exact HB.out|apply below_alloc|apply pw_below_drewN|apply below_drew1|refine below_set ?_ GE555.out|refine below_set ?_ GE556.out)|exact HB.out))) : w.heap.size ≤ gb570));have n6_:=Aside0.mk ((by rw [hg];exact (below_size (by repeat (first|(with_reducible first|exact HB.out|apply below_alloc|apply pw_below_drewN|apply below_drew1|refine below_set ?_ GE555.out|refine below_set ?_ GE556.out)|exact HB.out))) : w.heap.size ≤ gb570))
            have n7_:=Aside0.mk ((by rw [hg];exact Nat.ne_of_lt (blk_lt (g:=gb555) (o:=.cells #[.slice A0_0 l0_0.length c0_0,.slice A0_1 l0_1.length c0_1,.slice A0_2 l0_2.length c0_2] 26 (0,0)) (blkU BK555.out)) : gb555 ≠ gb570));have n8_:=Aside0.mk ((by rw [hg];exact Nat.ne_of_gt (blk_lt (g:=gb555) (o:=.cells #[.slice A0_0 l0_0.length c0_0,.slice A0_1 l0_1.length c0_1,.slice A0_2 l0_2.length c0_2] 26 (0,0)) (blkU BK555.out)) : gb570 ≠ gb555));have n9_:=Aside0.mk ((by rw [hg];exact Nat.ne_of_lt (blk_lt (g:=gb556) (o:=.cells #[.slice none 0 0,.slice none 0 0,.slice none 0 0] 26 (0,0)) (blkU BK556.out)) : gb556 ≠ gb570));have n10_:=Aside0.mk ((by rw [hg];exact Nat.ne_of_gt (blk_lt (g:=gb556) (o:=.cells #[.slice none 0 0,.slice none 0 0,.slice none 0 0] 26 (0,0)) (blkU BK556.out)) : gb570 ≠ gb556));clear HO563 BK555 BK556 HB;have HO563:=n0_;have BK555:=n1_;have BK556:=n2_;have HB:=n3_;have BK570:=n4_;have GW570:=n5_;have GE570:=n6_;have NB555_570:=n7_;have NB570_555:=n8_
            have NB556_570:=n9_;have NB570_556:=n10_;clear n0_ n1_ n2_ n3_ n4_ n5_ n6_ n7_ n8_ n9_ n10_ hb hbox hg
            refine hK.out _ _ ⟨(blk_cell BK555.out 0).trans rfl,(blk_cell BK555.out 1).trans rfl,(blk_cell BK555.out 2).trans rfl⟩ (fun hHeld => ?_);clear hK K
            refine norm_ (a':=?_) ?_ ?_;rotate_left
            ·
             show Act.put _ (some 3) _ = _
             simp only [Act.put,List.setIfInBounds_toArray,List.set_cons_zero,List.set_cons_succ,i64_w,i32_w]
             rfl
            exact norm_ (by first|(simp only [putAll,Act.put,List.setIfInBounds_toArray,List.set_cons_zero,List.set_cons_succ];done)|(simp only [putAll,Act.put,List.setIfInBounds_toArray,List.set_cons_zero,List.set_cons_succ];rfl)) (hJ0_3_9 (v559,v562,gb570) _ ⟨hHeld,(rU HO563.out),(blkU BK555.out),(blkU BK556.out),(blkU BK570.out),GW570.out,GE570.out,NB555_570.out,NB570_555.out,NB556_570.out,NB570_556.out,(by repeat (first|(with_reducible first|exact HB.out|apply below_alloc|apply pw_below_drewN|apply below_drew1|refine below_set ?_ GE555.out|refine below_set ?_ GE556.out|refine below_set ?_ GE570.out)|exact HB.out))⟩)
         ·
          skip
          rintro ⟨v559,v565,gb570⟩ w17 ⟨hS_,h0_,h1_,h2_,h3_,h4_,h5_,h6_,h7_,h8_,h9_,h10_,h11_⟩
          have n0_ : Aside0 (Kd.R (Kd.int .i64) 3 w17 w.heap.size (fun k_ => some k_ ≠ (v565 : Value).ownBlock) v559 y558):=⟨h0_⟩
          have n1_ : Aside0 (Kd.R (Kd.int .i64) 3 w17 w.heap.size (fun k_ => some k_ ≠ (v559 : Value).ownBlock) v565 y564):=⟨h1_⟩
          have n2_ : Aside0 (w17.heap[gb555]? = some (.cells #[.slice A0_0 l0_0.length c0_0,.slice A0_1 l0_1.length c0_1,.slice A0_2 l0_2.length c0_2] 26 (0,0))):=⟨h2_⟩
          have n3_ : Aside0 (w17.heap[gb556]? = some (.cells #[.slice none 0 0,.slice none 0 0,.slice none 0 0] 26 (0,0))):=⟨h3_⟩
          have n4_ : Aside0 (w17.heap[gb570]? = some (.cells #[.slice none 0 0,.slice none 0 0,.slice none 0 0] 26 (0,0))):=⟨h4_⟩
          have n5_ : Aside0 (w.heap.size ≤ gb570):=⟨h5_⟩
          have n6_ : Aside0 (w.heap.size ≤ gb570):=⟨h6_⟩
          have n7_ : Aside0 (gb555 ≠ gb570):=⟨h7_⟩
          have n8_ : Aside0 (gb570 ≠ gb555):=⟨h8_⟩
          have n9_ : Aside0 (gb556 ≠ gb570):=⟨h9_⟩
          have n10_ : Aside0 (gb570 ≠ gb556):=⟨h10_⟩
          have n11_ : Aside0 (Below w.heap.size w w17):=⟨h11_⟩;clear BK555 BK556 HB h0_ h1_ h2_ h3_ h4_ h5_ h6_ h7_ h8_ h9_ h10_ h11_;have HO560:=n0_;have HO566:=n1_;have BK555:=n2_;have BK556:=n3_;have BK570:=n4_;have GW570:=n5_;have GE570:=n6_;have NB555_570:=n7_;have NB570_555:=n8_;have NB556_570:=n9_;have NB570_556:=n10_;have HB:=n11_;clear n0_ n1_ n2_ n3_ n4_ n5_ n6_ n7_ n8_ n9_ n10_ n11_
          have hHeld : w17.cell? ⟨gb555,0,none⟩ = some (.slice A0_0 l0_0.length c0_0) ∧ w17.cell? ⟨gb555,1,none⟩ = some (.slice A0_1 l0_1.length c0_1) ∧ w17.cell? ⟨gb555,2,none⟩ = some (.slice A0_2 l0_2.length c0_2):=hS_
          refine norm_ (a':=?_) ?_ ?_;rotate_left
          ·
           simp only [putAll,Act.put,List.setIfInBounds_toArray,List.set_cons_zero,List.set_cons_succ]
           rfl
          refine one_ (i:=3) (N:=some 13) #[true,true,true,true,true,true,true,false,false,true,false] rfl rfl (one_of HT_.out (by kernel_rfl)) (by decide) (fun K hK => ?_)
          refine Kd.R_append_rows_step (Kd.int .i64) (w0:=w) w.heap.size (by rfl) (.tmp 10) (.tmp 12) 24 3 (.int .i64 0) 8 rfl Try.underlying24 info3 rfl (by decide) (by omega) v559 y558 l0_0 _ _ _ (fun k_ => some k_ ≠ (v565 : Value).ownBlock) (fun _ => False) rfl rfl ?aO ?aR (fun _ _ h => h) (fun _ h => h.elim) ?aF ?aB ?aS ?aL ?_
          (case aR => exact cU (Kd.C_below HR0_0.out HB.out))
          (case aB => exact (by repeat (first|(with_reducible first|exact HB.out|apply below_alloc|apply pw_below_drewN|apply below_drew1|refine below_set ?_ GE555.out|refine below_set ?_ GE556.out|refine below_set ?_ GE570.out)|exact HB.out)))
          (case aF => exact (fun k_ hk => Kd.fresh' (Kd.R_lt (rU HO566.out)) k_ hk))
          (case aO => exact (rU HO560.out))
          (case aS => exact (below_size (by repeat (first|(with_reducible first|exact HB.out|apply below_alloc|apply pw_below_drewN|apply below_drew1|refine below_set ?_ GE555.out|refine below_set ?_ GE556.out|refine below_set ?_ GE570.out)|exact HB.out))))
          (case aL => have:=LMc4.out;omega);intro v562 w18 ho hb hg hat
          rw [← Ny561.out] at ho;have n0_:=Aside0.mk (blk_grown (g:=gb555) (o:=.cells #[.slice A0_0 l0_0.length c0_0,.slice A0_1 l0_1.length c0_1,.slice A0_2 l0_2.length c0_2] 26 (0,0)) (blkU BK555.out) hg (Kd.R_ne HO560.out BK555.out (by decide)));have n1_:=Aside0.mk (blk_grown (g:=gb556) (o:=.cells #[.slice none 0 0,.slice none 0 0,.slice none 0 0] 26 (0,0)) (blkU BK556.out) hg (Kd.R_ne HO560.out BK556.out (by decide)));have n2_:=Aside0.mk (Kd.R_after (ok:=(fun _ => True)) (by (with_reducible repeat (first|apply Kd.R_alloc|apply Kd.R_drewN|apply Kd.R_drew));exact Kd.R_mono HO566.out (fun _ hk => ⟨trivial,hk⟩)) hg hat);have n3_:=Aside0.mk (blk_grown (g:=gb570) (o:=.cells #[.slice none 0 0,.slice none 0 0,.slice none 0 0] 26 (0,0)) (blkU BK570.out) hg (Kd.R_ne HO560.out BK570.out (by decide)));have n4_:=Aside0.mk (hb);have n5_:=Aside0.mk (ho);clear BK555 BK556 HO566 BK570 HB HO560;have BK555:=n0_;have BK556:=n1_;have HO566:=n2_;have BK570:=n3_;have HB:=n4_;have HO563:=n5_;clear n0_ n1_ n2_ n3_ n4_ n5_ ho hb hg hat
          refine hK.out _ _ ⟨(blk_cell BK555.out 0).trans rfl,(blk_cell BK555.out 1).trans rfl,(blk_cell BK555.out 2).trans rfl⟩ (fun hHeld => ?_);clear hK K
          refine norm_ (a':=?_) ?_ ?_;rotate_left
          ·
           show Act.put _ (some 13) _ = _
           simp only [Act.put,List.setIfInBounds_toArray,List.set_cons_zero,List.set_cons_succ,i64_w,i32_w]
           rfl
          exact norm_ (by first|(simp only [putAll,Act.put,List.setIfInBounds_toArray,List.set_cons_zero,List.set_cons_succ];done)|(simp only [putAll,Act.put,List.setIfInBounds_toArray,List.set_cons_zero,List.set_cons_succ];rfl)) (hJ0_3_4_9 (v559,v562,v565,gb570) _ ⟨hHeld,(rU HO563.out),(by (with_reducible repeat (first|apply Kd.R_alloc|apply Kd.R_drewN|apply Kd.R_drew));exact Kd.R_mono HO566.out (fun _ hk => hk.2)),(blkU BK555.out),(blkU BK556.out),(blkU BK570.out),GW570.out,GE570.out,NB555_570.out,NB570_555.out,NB556_570.out,NB570_556.out,(by repeat (first|(with_reducible first|exact HB.out|apply below_alloc|apply pw_below_drewN|apply below_drew1|refine below_set ?_ GE555.out|refine below_set ?_ GE556.out|refine below_set ?_ GE570.out)|exact HB.out))⟩)
        ·
         skip
         rintro ⟨v559,v562,gb570⟩ w16 ⟨hS_,h0_,h1_,h2_,h3_,h4_,h5_,h6_,h7_,h8_,h9_,h10_⟩
         have n0_ : Aside0 (Kd.R (Kd.int .i64) 3 w16 w.heap.size (fun _ => True) v562 y561):=⟨h0_⟩
         have n1_ : Aside0 (w16.heap[gb555]? = some (.cells #[.slice A0_0 l0_0.length c0_0,.slice A0_1 l0_1.length c0_1,.slice A0_2 l0_2.length c0_2] 26 (0,0))):=⟨h1_⟩
         have n2_ : Aside0 (w16.heap[gb556]? = some (.cells #[.slice none 0 0,.slice none 0 0,.slice none 0 0] 26 (0,0))):=⟨h2_⟩
         have n3_ : Aside0 (w16.heap[gb570]? = some (.cells #[.slice none 0 0,.slice none 0 0,.slice none 0 0] 26 (0,0))):=⟨h3_⟩
         have n4_ : Aside0 (w.heap.size ≤ gb570):=⟨h4_⟩
         have n5_ : Aside0 (w.heap.size ≤ gb570):=⟨h5_⟩
         have n6_ : Aside0 (gb555 ≠ gb570):=⟨h6_⟩
         have n7_ : Aside0 (gb570 ≠ gb555):=⟨h7_⟩
         have n8_ : Aside0 (gb556 ≠ gb570):=⟨h8_⟩
         have n9_ : Aside0 (gb570 ≠ gb556):=⟨h9_⟩
         have n10_ : Aside0 (Below w.heap.size w w16):=⟨h10_⟩;clear BK555 BK556 HB h0_ h1_ h2_ h3_ h4_ h5_ h6_ h7_ h8_ h9_ h10_;have HO563:=n0_;have BK555:=n1_;have BK556:=n2_;have BK570:=n3_;have GW570:=n4_;have GE570:=n5_;have NB555_570:=n6_;have NB570_555:=n7_;have NB556_570:=n8_;have NB570_556:=n9_;have HB:=n10_;clear n0_ n1_ n2_ n3_ n4_ n5_ n6_ n7_ n8_ n9_ n10_
         have hHeld : w16.cell? ⟨gb555,0,none⟩ = some (.slice A0_0 l0_0.length c0_0) ∧ w16.cell? ⟨gb555,1,none⟩ = some (.slice A0_1 l0_1.length c0_1) ∧ w16.cell? ⟨gb555,2,none⟩ = some (.slice A0_2 l0_2.length c0_2):=hS_
         refine norm_ (a':=?_) ?_ ?_;rotate_left
         ·
          simp only [putAll,Act.put,List.setIfInBounds_toArray,List.set_cons_zero,List.set_cons_succ]
          rfl
         refine one_ (i:=4) (N:=some 14) #[true,true,true,true,true,true,true,false,false,true,false] rfl rfl (one_of HT_.out (by kernel_rfl)) (by decide) (fun K hK => ?_)
         refine Kd.R_lit_step (Kd.int .i64) _ 3 ?hg (N:=14) ?hd (xs:=([] : List Int)) (inner:=[]) (ok:=fun _ => True) (okp:=fun _ => True) ?hr ?hp (fun _ hk => hk) trivial (Below.refl _ _) (Nat.le_refl _) (by simp) ?_;(case hd => rfl);(case hg => rfl);(case hr => first|(go_simp;done)|(go_simp;rfl));(case hp => exact (Reps.none _ _));intro v565 w17 ho18 hb hg_ hnew_;clear hg_ hnew_
         (first|rw [← Ny564.out] at ho18|(simp only [Int.reduceToNat] at ho18;rw [← Ny564.out] at ho18));have n0_:=Aside0.mk (Kd.R_elder' (rU HO563.out) (Kd.R_base ho18) hb);have n1_:=Aside0.mk (Kd.R_lower (Kd.R_new' ho18 (Kd.R_lt (rU HO563.out))) (below_size (by repeat (first|(with_reducible first|exact HB.out|apply below_alloc|apply pw_below_drewN|apply below_drew1|refine below_set ?_ GE555.out|refine below_set ?_ GE556.out|refine below_set ?_ GE570.out)|exact HB.out))));have n2_:=Aside0.mk (blk_below (g:=gb555) (o:=.cells #[.slice A0_0 l0_0.length c0_0,.slice A0_1 l0_1.length c0_1,.slice A0_2 l0_2.length c0_2] 26 (0,0)) (blkU BK555.out) hb);have n3_:=Aside0.mk (blk_below (g:=gb556) (o:=.cells #[.slice none 0 0,.slice none 0 0,.slice none 0 0] 26 (0,0)) (blkU BK556.out) hb);have n4_:=Aside0.mk (blk_below (g:=gb570) (o:=.cells #[.slice none 0 0,.slice none 0 0,.slice none 0 0] 26 (0,0)) (blkU BK570.out) hb);have n5_:=Aside0.mk (below_step (by repeat (first|(with_reducible first|exact HB.out|apply below_alloc|apply pw_below_drewN|apply below_drew1|refine below_set ?_ GE555.out|refine below_set ?_ GE556.out|refine below_set ?_ GE570.out)|exact HB.out)) hb)
         clear HO563 BK555 BK556 BK570 HB;have HO563:=n0_;have HO566:=n1_;have BK555:=n2_;have BK556:=n3_;have BK570:=n4_;have HB:=n5_;clear n0_ n1_ n2_ n3_ n4_ n5_ hb ho18
         refine hK.out _ _ ⟨(blk_cell BK555.out 0).trans rfl,(blk_cell BK555.out 1).trans rfl,(blk_cell BK555.out 2).trans rfl⟩ (fun hHeld => ?_);clear hK K
         refine norm_ (a':=?_) ?_ ?_;rotate_left
         ·
          show Act.put _ (some 14) _ = _
          simp only [Act.put,List.setIfInBounds_toArray,List.set_cons_zero,List.set_cons_succ,i64_w,i32_w]
          rfl
         exact norm_ (by first|(simp only [putAll,Act.put,List.setIfInBounds_toArray,List.set_cons_zero,List.set_cons_succ];done)|(simp only [putAll,Act.put,List.setIfInBounds_toArray,List.set_cons_zero,List.set_cons_succ];rfl)) (hJ0_3_4_9 (v559,v562,v565,gb570) _ ⟨hHeld,(by (with_reducible repeat (first|apply Kd.R_alloc|apply Kd.R_drewN|apply Kd.R_drew));exact Kd.R_mono HO563.out (fun _ hk => hk.2)),(by (with_reducible repeat (first|apply Kd.R_alloc|apply Kd.R_drewN|apply Kd.R_drew));exact Kd.R_mono HO566.out (fun _ hk => hk.2)),(blkU BK555.out),(blkU BK556.out),(blkU BK570.out),GW570.out,GE570.out,NB555_570.out,NB570_555.out,NB556_570.out,NB570_556.out,(by repeat (first|(with_reducible first|exact HB.out|apply below_alloc|apply pw_below_drewN|apply below_drew1|refine below_set ?_ GE555.out|refine below_set ?_ GE556.out|refine below_set ?_ GE570.out)|exact HB.out))⟩)
       ·
        skip
        rintro ⟨v559,v562,v565⟩ w17 ⟨hS_,h0_,h1_,h2_,h3_,h4_⟩
        have n0_ : Aside0 (Kd.R (Kd.int .i64) 3 w17 w.heap.size (fun k_ => some k_ ≠ (v565 : Value).ownBlock) v562 y561):=⟨h0_⟩
        have n1_ : Aside0 (Kd.R (Kd.int .i64) 3 w17 w.heap.size (fun k_ => some k_ ≠ (v562 : Value).ownBlock) v565 y564):=⟨h1_⟩
        have n2_ : Aside0 (w17.heap[gb555]? = some (.cells #[.slice A0_0 l0_0.length c0_0,.slice A0_1 l0_1.length c0_1,.slice A0_2 l0_2.length c0_2] 26 (0,0))):=⟨h2_⟩
        have n3_ : Aside0 (w17.heap[gb556]? = some (.cells #[.slice none 0 0,.slice none 0 0,.slice none 0 0] 26 (0,0))):=⟨h3_⟩
        have n4_ : Aside0 (Below w.heap.size w w17):=⟨h4_⟩;clear BK555 BK556 HB h0_ h1_ h2_ h3_ h4_;have HO563:=n0_;have HO566:=n1_;have BK555:=n2_;have BK556:=n3_;have HB:=n4_;clear n0_ n1_ n2_ n3_ n4_
        have hHeld : w17.cell? ⟨gb555,0,none⟩ = some (.slice A0_0 l0_0.length c0_0) ∧ w17.cell? ⟨gb555,1,none⟩ = some (.slice A0_1 l0_1.length c0_1) ∧ w17.cell? ⟨gb555,2,none⟩ = some (.slice A0_2 l0_2.length c0_2):=hS_
        refine norm_ (a':=?_) ?_ ?_;rotate_left
        ·
         simp only [putAll,Act.put,List.setIfInBounds_toArray,List.set_cons_zero,List.set_cons_succ]
         rfl
        refine two_ (i:=7) (j:=9) (Ni:=some 17) (Nj:=some 3) #[true,true,true,true,true,true,true,true,false,false,false] #[true,true,true,true,true,true,true,false,false,true,false] rfl rfl rfl rfl (two_of HT_.out (by kernel_rfl)) (by decide) (by decide) (fun K hK => ?_) (fun K hK => ?_)
        ·
         skip
         refine Kd.R_append_rows_step (Kd.int .i64) (w0:=w) w.heap.size (by rfl) (.tmp 14) (.tmp 16) 24 3 (.int .i64 0) 8 rfl Try.underlying24 info3 rfl (by decide) (by omega) v565 y564 l0_1 _ _ _ (fun k_ => some k_ ≠ (v562 : Value).ownBlock) (fun _ => False) rfl rfl ?aO ?aR (fun _ _ h => h) (fun _ h => h.elim) ?aF ?aB ?aS ?aL ?_
         (case aR => exact cU (Kd.C_below HR0_1.out HB.out))
         (case aB => exact (by repeat (first|(with_reducible first|exact HB.out|apply below_alloc|apply pw_below_drewN|apply below_drew1|refine below_set ?_ GE555.out|refine below_set ?_ GE556.out)|exact HB.out)))
         (case aF => exact (fun k_ hk => Kd.fresh' (Kd.R_lt (rU HO563.out)) k_ hk))
         (case aO => exact (rU HO566.out))
         (case aS => exact (below_size (by repeat (first|(with_reducible first|exact HB.out|apply below_alloc|apply pw_below_drewN|apply below_drew1|refine below_set ?_ GE555.out|refine below_set ?_ GE556.out)|exact HB.out))))
         (case aL => have:=LMc5.out;omega);intro v568 w18 ho hb hg hat
         rw [← Ny567.out] at ho;have n0_:=Aside0.mk (blk_grown (g:=gb555) (o:=.cells #[.slice A0_0 l0_0.length c0_0,.slice A0_1 l0_1.length c0_1,.slice A0_2 l0_2.length c0_2] 26 (0,0)) (blkU BK555.out) hg (Kd.R_ne HO566.out BK555.out (by decide)));have n1_:=Aside0.mk (blk_grown (g:=gb556) (o:=.cells #[.slice none 0 0,.slice none 0 0,.slice none 0 0] 26 (0,0)) (blkU BK556.out) hg (Kd.R_ne HO566.out BK556.out (by decide)));have n2_:=Aside0.mk (Kd.R_after (ok:=(fun _ => True)) (by (with_reducible repeat (first|apply Kd.R_alloc|apply Kd.R_drewN|apply Kd.R_drew));exact Kd.R_mono HO563.out (fun _ hk => ⟨trivial,hk⟩)) hg hat);have n3_:=Aside0.mk (hb);have n4_:=Aside0.mk (ho);clear BK555 BK556 HO563 HB HO566;have BK555:=n0_;have BK556:=n1_;have HO563:=n2_;have HB:=n3_;have HO569:=n4_;clear n0_ n1_ n2_ n3_ n4_ ho hb hg hat
         obtain ⟨Ao19,co19,eo19⟩:=Kd.R_slice HO569.out
         (first|subst eo19|(injection eo19 with f1_ f2_ f3_;have f4_:=f1_.symm;have f5_:=f3_.symm;clear f1_ f2_ f3_;subst f4_;subst f5_))
         obtain ⟨Ao20,co20,eo20⟩:=Kd.R_slice HO563.out
         (first|subst eo20|(injection eo20 with f1_ f2_ f3_;have f4_:=f1_.symm;have f5_:=f3_.symm;clear f1_ f2_ f3_;subst f4_;subst f5_))
         refine hK.out _ _ ⟨(blk_cell BK555.out 0).trans rfl,(blk_cell BK555.out 1).trans rfl,(blk_cell BK555.out 2).trans rfl⟩ (fun hHeld => ?_);clear hK K
         refine norm_ (a':=?_) ?_ ?_;rotate_left
         ·
          show Act.put _ (some 17) _ = _
          simp only [Act.put,List.setIfInBounds_toArray,List.set_cons_zero,List.set_cons_succ,i64_w,i32_w]
          rfl
         refine pure_ (i:=8) (N:=some 18) (v:=?_) (a':=?_) #[true,true,true,true,true,true,true,true,true,false,false] rfl rfl (any_of HT_.out (by kernel_rfl)) (fun _ _ _ h => h) (Or.inl ⟨by rfl,?_⟩) ?_ ?_;rotate_left
         ·
          intro w'
          go_simp
          with_reducible rfl
         rotate_left
         ·
          simp only [Act.put,List.setIfInBounds_toArray,List.set_cons_zero,List.set_cons_succ,i64_w,i32_w]
          rfl
         exact norm_ (by first|(simp only [putAll,Act.put,List.setIfInBounds_toArray,List.set_cons_zero,List.set_cons_succ];done)|(simp only [putAll,Act.put,List.setIfInBounds_toArray,List.set_cons_zero,List.set_cons_succ];rfl)) (hJ0_3_4_7 (v559,.slice Ao20 y561.length co20,v565,.slice Ao19 y567.length co19) _ ⟨hHeld,(by (with_reducible repeat (first|apply Kd.R_alloc|apply Kd.R_drewN|apply Kd.R_drew));exact Kd.R_mono HO563.out (fun _ hk => hk.2)),(rU HO569.out),(blkU BK555.out),(blkU BK556.out),(by repeat (first|(with_reducible first|exact HB.out|apply below_alloc|apply pw_below_drewN|apply below_drew1|refine below_set ?_ GE555.out|refine below_set ?_ GE556.out)|exact HB.out))⟩)
        ·
         skip
         refine box_step ?hg (N:=3) ?hd (cs:=#[.slice none 0 0,.slice none 0 0,.slice none 0 0]) (t:=26) ?hr ?_;(case hd => rfl);(case hg => rfl);(case hr => first|(go_simp;done)|(go_simp;rfl));intro gb570 hg w18 hbox hb;have n0_:=Aside0.mk (Kd.R_below (rU HO563.out) hb);have n1_:=Aside0.mk (Kd.R_below (rU HO566.out) hb);have n2_:=Aside0.mk (blk_below (g:=gb555) (o:=.cells #[.slice A0_0 l0_0.length c0_0,.slice A0_1 l0_1.length c0_1,.slice A0_2 l0_2.length c0_2] 26 (0,0)) (blkU BK555.out) hb);have n3_:=Aside0.mk (blk_below (g:=gb556) (o:=.cells #[.slice none 0 0,.slice none 0 0,.slice none 0 0] 26 (0,0)) (blkU BK556.out) hb);have n4_:=Aside0.mk (below_step (by repeat (first|(with_reducible first|exact HB.out|apply below_alloc|apply pw_below_drewN|apply below_drew1|refine below_set ?_ GE555.out|refine below_set ?_ GE556.out)|exact HB.out)) hb);have n5_:=Aside0.mk (hbox);have n6_:=Aside0.mk ((by rw [hg];exact (below_size (by repeat (first|(with_reducible first|exact HB.out|apply below_alloc|apply pw_below_drewN|apply below_drew1|refine below_set ?_ GE555.out|refine below_set ?_ GE556.out)|exact HB.out))) : w.heap.size ≤ gb570))
         have n7_:=Aside0.mk ((by rw [hg];exact (below_size (by repeat (first|(with_reducible first|exact HB.out|apply below_alloc|apply pw_below_drewN|apply below_drew1|refine below_set ?_ GE555.out|refine below_set ?_ GE556.out)|exact HB.out))) : w.heap.size ≤ gb570));have n8_:=Aside0.mk ((by rw [hg];exact Nat.ne_of_lt (blk_lt (g:=gb555) (o:=.cells #[.slice A0_0 l0_0.length c0_0,.slice A0_1 l0_1.length c0_1,.slice A0_2 l0_2.length c0_2] 26 (0,0)) (blkU BK555.out)) : gb555 ≠ gb570));have n9_:=Aside0.mk ((by rw [hg];exact Nat.ne_of_gt (blk_lt (g:=gb555) (o:=.cells #[.slice A0_0 l0_0.length c0_0,.slice A0_1 l0_1.length c0_1,.slice A0_2 l0_2.length c0_2] 26 (0,0)) (blkU BK555.out)) : gb570 ≠ gb555));have n10_:=Aside0.mk ((by rw [hg];exact Nat.ne_of_lt (blk_lt (g:=gb556) (o:=.cells #[.slice none 0 0,.slice none 0 0,.slice none 0 0] 26 (0,0)) (blkU BK556.out)) : gb556 ≠ gb570));have n11_:=Aside0.mk ((by rw [hg];exact Nat.ne_of_gt (blk_lt (g:=gb556) (o:=.cells #[.slice none 0 0,.slice none 0 0,.slice none 0 0] 26 (0,0)) (blkU BK556.out)) : gb570 ≠ gb556))
         clear HO563 HO566 BK555 BK556 HB;have HO563:=n0_;have HO566:=n1_;have BK555:=n2_;have BK556:=n3_;have HB:=n4_;have BK570:=n5_;have GW570:=n6_;have GE570:=n7_;have NB555_570:=n8_;have NB570_555:=n9_;have NB556_570:=n10_;have NB570_556:=n11_;clear n0_ n1_ n2_ n3_ n4_ n5_ n6_ n7_ n8_ n9_ n10_ n11_ hb hbox hg
         refine hK.out _ _ ⟨(blk_cell BK555.out 0).trans rfl,(blk_cell BK555.out 1).trans rfl,(blk_cell BK555.out 2).trans rfl⟩ (fun hHeld => ?_);clear hK K
         refine norm_ (a':=?_) ?_ ?_;rotate_left
         ·
          show Act.put _ (some 3) _ = _
          simp only [Act.put,List.setIfInBounds_toArray,List.set_cons_zero,List.set_cons_succ,i64_w,i32_w]
          rfl
         exact norm_ (by first|(simp only [putAll,Act.put,List.setIfInBounds_toArray,List.set_cons_zero,List.set_cons_succ];done)|(simp only [putAll,Act.put,List.setIfInBounds_toArray,List.set_cons_zero,List.set_cons_succ];rfl)) (hJ0_3_4_9 (v559,v562,v565,gb570) _ ⟨hHeld,(rU HO563.out),(rU HO566.out),(blkU BK555.out),(blkU BK556.out),(blkU BK570.out),GW570.out,GE570.out,NB555_570.out,NB570_555.out,NB556_570.out,NB570_556.out,(by repeat (first|(with_reducible first|exact HB.out|apply below_alloc|apply pw_below_drewN|apply below_drew1|refine below_set ?_ GE555.out|refine below_set ?_ GE556.out|refine below_set ?_ GE570.out)|exact HB.out))⟩)
      ·
       skip
       rintro ⟨v559,v562,v565,gb570⟩ w18 ⟨hS_,h0_,h1_,h2_,h3_,h4_,h5_,h6_,h7_,h8_,h9_,h10_,h11_⟩
       have n0_ : Aside0 (Kd.R (Kd.int .i64) 3 w18 w.heap.size (fun k_ => some k_ ≠ (v565 : Value).ownBlock) v562 y561):=⟨h0_⟩
       have n1_ : Aside0 (Kd.R (Kd.int .i64) 3 w18 w.heap.size (fun k_ => some k_ ≠ (v562 : Value).ownBlock) v565 y564):=⟨h1_⟩
       have n2_ : Aside0 (w18.heap[gb555]? = some (.cells #[.slice A0_0 l0_0.length c0_0,.slice A0_1 l0_1.length c0_1,.slice A0_2 l0_2.length c0_2] 26 (0,0))):=⟨h2_⟩
       have n3_ : Aside0 (w18.heap[gb556]? = some (.cells #[.slice none 0 0,.slice none 0 0,.slice none 0 0] 26 (0,0))):=⟨h3_⟩
       have n4_ : Aside0 (w18.heap[gb570]? = some (.cells #[.slice none 0 0,.slice none 0 0,.slice none 0 0] 26 (0,0))):=⟨h4_⟩
       have n5_ : Aside0 (w.heap.size ≤ gb570):=⟨h5_⟩
       have n6_ : Aside0 (w.heap.size ≤ gb570):=⟨h6_⟩
       have n7_ : Aside0 (gb555 ≠ gb570):=⟨h7_⟩
       have n8_ : Aside0 (gb570 ≠ gb555):=⟨h8_⟩
       have n9_ : Aside0 (gb556 ≠ gb570):=⟨h9_⟩
       have n10_ : Aside0 (gb570 ≠ gb556):=⟨h10_⟩
       have n11_ : Aside0 (Below w.heap.size w w18):=⟨h11_⟩;clear BK555 BK556 HB h0_ h1_ h2_ h3_ h4_ h5_ h6_ h7_ h8_ h9_ h10_ h11_;have HO563:=n0_;have HO566:=n1_;have BK555:=n2_;have BK556:=n3_;have BK570:=n4_;have GW570:=n5_;have GE570:=n6_;have NB555_570:=n7_;have NB570_555:=n8_;have NB556_570:=n9_;have NB570_556:=n10_;have HB:=n11_;clear n0_ n1_ n2_ n3_ n4_ n5_ n6_ n7_ n8_ n9_ n10_ n11_
       have hHeld : w18.cell? ⟨gb555,0,none⟩ = some (.slice A0_0 l0_0.length c0_0) ∧ w18.cell? ⟨gb555,1,none⟩ = some (.slice A0_1 l0_1.length c0_1) ∧ w18.cell? ⟨gb555,2,none⟩ = some (.slice A0_2 l0_2.length c0_2):=hS_
       refine norm_ (a':=?_) ?_ ?_;rotate_left
       ·
        simp only [putAll,Act.put,List.setIfInBounds_toArray,List.set_cons_zero,List.set_cons_succ]
        rfl
       refine one_ (i:=7) (N:=some 17) #[true,true,true,true,true,true,true,true,false,true,false] rfl rfl (one_of HT_.out (by kernel_rfl)) (by decide) (fun K hK => ?_)
       refine Kd.R_append_rows_step (Kd.int .i64) (w0:=w) w.heap.size (by rfl) (.tmp 14) (.tmp 16) 24 3 (.int .i64 0) 8 rfl Try.underlying24 info3 rfl (by decide) (by omega) v565 y564 l0_1 _ _ _ (fun k_ => some k_ ≠ (v562 : Value).ownBlock) (fun _ => False) rfl rfl ?aO ?aR (fun _ _ h => h) (fun _ h => h.elim) ?aF ?aB ?aS ?aL ?_
       (case aR => exact cU (Kd.C_below HR0_1.out HB.out))
       (case aB => exact (by repeat (first|(with_reducible first|exact HB.out|apply below_alloc|apply pw_below_drewN|apply below_drew1|refine below_set ?_ GE555.out|refine below_set ?_ GE556.out|refine below_set ?_ GE570.out)|exact HB.out)))
       (case aF => exact (fun k_ hk => Kd.fresh' (Kd.R_lt (rU HO563.out)) k_ hk))
       (case aO => exact (rU HO566.out))
       (case aS => exact (below_size (by repeat (first|(with_reducible first|exact HB.out|apply below_alloc|apply pw_below_drewN|apply below_drew1|refine below_set ?_ GE555.out|refine below_set ?_ GE556.out|refine below_set ?_ GE570.out)|exact HB.out))))
       (case aL => have:=LMc5.out;omega);intro v568 w19 ho hb hg hat
       rw [← Ny567.out] at ho;have n0_:=Aside0.mk (blk_grown (g:=gb555) (o:=.cells #[.slice A0_0 l0_0.length c0_0,.slice A0_1 l0_1.length c0_1,.slice A0_2 l0_2.length c0_2] 26 (0,0)) (blkU BK555.out) hg (Kd.R_ne HO566.out BK555.out (by decide)));have n1_:=Aside0.mk (blk_grown (g:=gb556) (o:=.cells #[.slice none 0 0,.slice none 0 0,.slice none 0 0] 26 (0,0)) (blkU BK556.out) hg (Kd.R_ne HO566.out BK556.out (by decide)));have n2_:=Aside0.mk (Kd.R_after (ok:=(fun _ => True)) (by (with_reducible repeat (first|apply Kd.R_alloc|apply Kd.R_drewN|apply Kd.R_drew));exact Kd.R_mono HO563.out (fun _ hk => ⟨trivial,hk⟩)) hg hat);have n3_:=Aside0.mk (blk_grown (g:=gb570) (o:=.cells #[.slice none 0 0,.slice none 0 0,.slice none 0 0] 26 (0,0)) (blkU BK570.out) hg (Kd.R_ne HO566.out BK570.out (by decide)));have n4_:=Aside0.mk (hb);have n5_:=Aside0.mk (ho);clear BK555 BK556 HO563 BK570 HB HO566;have BK555:=n0_;have BK556:=n1_;have HO563:=n2_;have BK570:=n3_;have HB:=n4_;have HO569:=n5_;clear n0_ n1_ n2_ n3_ n4_ n5_ ho hb hg hat
       obtain ⟨Ao20,co20,eo20⟩:=Kd.R_slice HO569.out
       (first|subst eo20|(injection eo20 with f1_ f2_ f3_;have f4_:=f1_.symm;have f5_:=f3_.symm;clear f1_ f2_ f3_;subst f4_;subst f5_))
       obtain ⟨Ao21,co21,eo21⟩:=Kd.R_slice HO563.out
       (first|subst eo21|(injection eo21 with f1_ f2_ f3_;have f4_:=f1_.symm;have f5_:=f3_.symm;clear f1_ f2_ f3_;subst f4_;subst f5_))
       refine hK.out _ _ ⟨(blk_cell BK555.out 0).trans rfl,(blk_cell BK555.out 1).trans rfl,(blk_cell BK555.out 2).trans rfl⟩ (fun hHeld => ?_);clear hK K
       refine norm_ (a':=?_) ?_ ?_;rotate_left
       ·
        show Act.put _ (some 17) _ = _
        simp only [Act.put,List.setIfInBounds_toArray,List.set_cons_zero,List.set_cons_succ,i64_w,i32_w]
        rfl
       refine pure_ (i:=8) (N:=some 18) (v:=?_) (a':=?_) #[true,true,true,true,true,true,true,true,true,true,false] rfl rfl (any_of HT_.out (by kernel_rfl)) (fun _ _ _ h => h) (Or.inl ⟨by rfl,?_⟩) ?_ ?_;rotate_left
       ·
        intro w'
        go_simp
        with_reducible rfl
       rotate_left
       ·
        simp only [Act.put,List.setIfInBounds_toArray,List.set_cons_zero,List.set_cons_succ,i64_w,i32_w]
        rfl
       exact norm_ (by first|(simp only [putAll,Act.put,List.setIfInBounds_toArray,List.set_cons_zero,List.set_cons_succ];done)|(simp only [putAll,Act.put,List.setIfInBounds_toArray,List.set_cons_zero,List.set_cons_succ];rfl)) (hJ0_3_4_7_9 (v559,.slice Ao21 y561.length co21,v565,.slice Ao20 y567.length co20,gb570) _ ⟨hHeld,(by (with_reducible repeat (first|apply Kd.R_alloc|apply Kd.R_drewN|apply Kd.R_drew));exact Kd.R_mono HO563.out (fun _ hk => hk.2)),(rU HO569.out),(blkU BK555.out),(blkU BK556.out),(blkU BK570.out),GW570.out,GE570.out,NB555_570.out,NB570_555.out,NB556_570.out,NB570_556.out,(by repeat (first|(with_reducible first|exact HB.out|apply below_alloc|apply pw_below_drewN|apply below_drew1|refine below_set ?_ GE555.out|refine below_set ?_ GE556.out|refine below_set ?_ GE570.out)|exact HB.out))⟩)
     ·
      skip
      rintro ⟨v559,v562,v565,v568⟩ w20 ⟨hS_,h0_,h1_,h2_,h3_,h4_⟩
      have n0_ : Aside0 (Kd.R (Kd.int .i64) 3 w20 w.heap.size (fun k_ => some k_ ≠ (v568 : Value).ownBlock) v562 y561):=⟨h0_⟩
      have n1_ : Aside0 (Kd.R (Kd.int .i64) 3 w20 w.heap.size (fun k_ => some k_ ≠ (v562 : Value).ownBlock) v568 y567):=⟨h1_⟩
      have n2_ : Aside0 (w20.heap[gb555]? = some (.cells #[.slice A0_0 l0_0.length c0_0,.slice A0_1 l0_1.length c0_1,.slice A0_2 l0_2.length c0_2] 26 (0,0))):=⟨h2_⟩
      have n3_ : Aside0 (w20.heap[gb556]? = some (.cells #[.slice none 0 0,.slice none 0 0,.slice none 0 0] 26 (0,0))):=⟨h3_⟩
      have n4_ : Aside0 (Below w.heap.size w w20):=⟨h4_⟩;clear BK555 BK556 HB h0_ h1_ h2_ h3_ h4_;have HO563:=n0_;have HO569:=n1_;have BK555:=n2_;have BK556:=n3_;have HB:=n4_;clear n0_ n1_ n2_ n3_ n4_
      have hHeld : w20.cell? ⟨gb555,0,none⟩ = some (.slice A0_0 l0_0.length c0_0) ∧ w20.cell? ⟨gb555,1,none⟩ = some (.slice A0_1 l0_1.length c0_1) ∧ w20.cell? ⟨gb555,2,none⟩ = some (.slice A0_2 l0_2.length c0_2):=hS_
      obtain ⟨Ao21,co21,eo21⟩:=Kd.R_slice HO569.out
      (first|subst eo21|(injection eo21 with f1_ f2_ f3_;have f4_:=f1_.symm;have f5_:=f3_.symm;clear f1_ f2_ f3_;subst f4_;subst f5_))
      obtain ⟨Ao22,co22,eo22⟩:=Kd.R_slice HO563.out
      (first|subst eo22|(injection eo22 with f1_ f2_ f3_;have f4_:=f1_.symm;have f5_:=f3_.symm;clear f1_ f2_ f3_;subst f4_;subst f5_))
      refine norm_ (a':=?_) ?_ ?_;rotate_left
      ·
       simp only [putAll,Act.put,List.setIfInBounds_toArray,List.set_cons_zero,List.set_cons_succ]
       rfl
      refine one_ (i:=9) (N:=some 3) #[true,true,true,true,true,true,true,true,true,true,false] rfl rfl (one_of HT_.out (by kernel_rfl)) (by decide) (fun K hK => ?_)
      refine box_step ?hg (N:=3) ?hd (cs:=#[.slice none 0 0,.slice none 0 0,.slice none 0 0]) (t:=26) ?hr ?_;(case hd => rfl);(case hg => rfl);(case hr => first|(go_simp;done)|(go_simp;rfl));intro gb570 hg w23 hbox hb;have n0_:=Aside0.mk (Kd.R_below (rU HO563.out) hb);have n1_:=Aside0.mk (Kd.R_below (rU HO569.out) hb);have n2_:=Aside0.mk (blk_below (g:=gb555) (o:=.cells #[.slice A0_0 l0_0.length c0_0,.slice A0_1 l0_1.length c0_1,.slice A0_2 l0_2.length c0_2] 26 (0,0)) (blkU BK555.out) hb);have n3_:=Aside0.mk (blk_below (g:=gb556) (o:=.cells #[.slice none 0 0,.slice none 0 0,.slice none 0 0] 26 (0,0)) (blkU BK556.out) hb);have n4_:=Aside0.mk (below_step (by repeat (first|(with_reducible first|exact HB.out|apply below_alloc|apply pw_below_drewN|apply below_drew1|refine below_set ?_ GE555.out|refine below_set ?_ GE556.out)|exact HB.out)) hb);have n5_:=Aside0.mk (hbox);have n6_:=Aside0.mk ((by rw [hg];exact (below_size (by repeat (first|(with_reducible first|exact HB.out|apply below_alloc|apply pw_below_drewN|apply below_drew1|refine below_set ?_ GE555.out|refine below_set ?_ GE556.out)|exact HB.out))) : w.heap.size ≤ gb570))
      have n7_:=Aside0.mk ((by rw [hg];exact (below_size (by repeat (first|(with_reducible first|exact HB.out|apply below_alloc|apply pw_below_drewN|apply below_drew1|refine below_set ?_ GE555.out|refine below_set ?_ GE556.out)|exact HB.out))) : w.heap.size ≤ gb570));have n8_:=Aside0.mk ((by rw [hg];exact Nat.ne_of_lt (blk_lt (g:=gb555) (o:=.cells #[.slice A0_0 l0_0.length c0_0,.slice A0_1 l0_1.length c0_1,.slice A0_2 l0_2.length c0_2] 26 (0,0)) (blkU BK555.out)) : gb555 ≠ gb570));have n9_:=Aside0.mk ((by rw [hg];exact Nat.ne_of_gt (blk_lt (g:=gb555) (o:=.cells #[.slice A0_0 l0_0.length c0_0,.slice A0_1 l0_1.length c0_1,.slice A0_2 l0_2.length c0_2] 26 (0,0)) (blkU BK555.out)) : gb570 ≠ gb555));have n10_:=Aside0.mk ((by rw [hg];exact Nat.ne_of_lt (blk_lt (g:=gb556) (o:=.cells #[.slice none 0 0,.slice none 0 0,.slice none 0 0] 26 (0,0)) (blkU BK556.out)) : gb556 ≠ gb570));have n11_:=Aside0.mk ((by rw [hg];exact Nat.ne_of_gt (blk_lt (g:=gb556) (o:=.cells #[.slice none 0 0,.slice none 0 0,.slice none 0 0] 26 (0,0)) (blkU BK556.out)) : gb570 ≠ gb556))
      clear HO563 HO569 BK555 BK556 HB;have HO563:=n0_;have HO569:=n1_;have BK555:=n2_;have BK556:=n3_;have HB:=n4_;have BK570:=n5_;have GW570:=n6_;have GE570:=n7_;have NB555_570:=n8_;have NB570_555:=n9_;have NB556_570:=n10_;have NB570_556:=n11_;clear n0_ n1_ n2_ n3_ n4_ n5_ n6_ n7_ n8_ n9_ n10_ n11_ hb hbox hg
      refine hK.out _ _ ⟨(blk_cell BK555.out 0).trans rfl,(blk_cell BK555.out 1).trans rfl,(blk_cell BK555.out 2).trans rfl⟩ (fun hHeld => ?_);clear hK K
      refine norm_ (a':=?_) ?_ ?_;rotate_left
      ·
       show Act.put _ (some 3) _ = _
       simp only [Act.put,List.setIfInBounds_toArray,List.set_cons_zero,List.set_cons_succ,i64_w,i32_w]
       rfl
      exact norm_ (by first|(simp only [putAll,Act.put,List.setIfInBounds_toArray,List.set_cons_zero,List.set_cons_succ];done)|(simp only [putAll,Act.put,List.setIfInBounds_toArray,List.set_cons_zero,List.set_cons_succ];rfl)) (hJ0_3_4_7_9 (v559,.slice Ao22 y561.length co22,v565,.slice Ao21 y567.length co21,gb570) _ ⟨hHeld,(rU HO563.out),(rU HO569.out),(blkU BK555.out),(blkU BK556.out),(blkU BK570.out),GW570.out,GE570.out,NB555_570.out,NB570_555.out,NB556_570.out,NB570_556.out,(by repeat (first|(with_reducible first|exact HB.out|apply below_alloc|apply pw_below_drewN|apply below_drew1|refine below_set ?_ GE555.out|refine below_set ?_ GE556.out|refine below_set ?_ GE570.out)|exact HB.out))⟩)
    rintro ⟨v559,v562,v565,v568,gb570⟩ w21 ⟨hS_,h0_,h1_,h2_,h3_,h4_,h5_,h6_,h7_,h8_,h9_,h10_,h11_⟩
    have n0_ : Aside0 (Kd.R (Kd.int .i64) 3 w21 w.heap.size (fun k_ => some k_ ≠ (v568 : Value).ownBlock) v562 y561):=⟨h0_⟩
    have n1_ : Aside0 (Kd.R (Kd.int .i64) 3 w21 w.heap.size (fun k_ => some k_ ≠ (v562 : Value).ownBlock) v568 y567):=⟨h1_⟩
    have n2_ : Aside0 (w21.heap[gb555]? = some (.cells #[.slice A0_0 l0_0.length c0_0,.slice A0_1 l0_1.length c0_1,.slice A0_2 l0_2.length c0_2] 26 (0,0))):=⟨h2_⟩
    have n3_ : Aside0 (w21.heap[gb556]? = some (.cells #[.slice none 0 0,.slice none 0 0,.slice none 0 0] 26 (0,0))):=⟨h3_⟩
    have n4_ : Aside0 (w21.heap[gb570]? = some (.cells #[.slice none 0 0,.slice none 0 0,.slice none 0 0] 26 (0,0))):=⟨h4_⟩
    have n5_ : Aside0 (w.heap.size ≤ gb570):=⟨h5_⟩
    have n6_ : Aside0 (w.heap.size ≤ gb570):=⟨h6_⟩
    have n7_ : Aside0 (gb555 ≠ gb570):=⟨h7_⟩
    have n8_ : Aside0 (gb570 ≠ gb555):=⟨h8_⟩
    have n9_ : Aside0 (gb556 ≠ gb570):=⟨h9_⟩
    have n10_ : Aside0 (gb570 ≠ gb556):=⟨h10_⟩
    have n11_ : Aside0 (Below w.heap.size w w21):=⟨h11_⟩;clear BK555 BK556 HB h0_ h1_ h2_ h3_ h4_ h5_ h6_ h7_ h8_ h9_ h10_ h11_;have HO563:=n0_;have HO569:=n1_;have BK555:=n2_;have BK556:=n3_;have BK570:=n4_;have GW570:=n5_;have GE570:=n6_;have NB555_570:=n7_;have NB570_555:=n8_;have NB556_570:=n9_;have NB570_556:=n10_;have HB:=n11_;clear n0_ n1_ n2_ n3_ n4_ n5_ n6_ n7_ n8_ n9_ n10_ n11_
    have hHeld : w21.cell? ⟨gb555,0,none⟩ = some (.slice A0_0 l0_0.length c0_0) ∧ w21.cell? ⟨gb555,1,none⟩ = some (.slice A0_1 l0_1.length c0_1) ∧ w21.cell? ⟨gb555,2,none⟩ = some (.slice A0_2 l0_2.length c0_2):=hS_
    obtain ⟨Ao22,co22,eo22⟩:=Kd.R_slice HO569.out
    (first|subst eo22|(injection eo22 with f1_ f2_ f3_;have f4_:=f1_.symm;have f5_:=f3_.symm;clear f1_ f2_ f3_;subst f4_;subst f5_))
    obtain ⟨Ao23,co23,eo23⟩:=Kd.R_slice HO563.out
    (first|subst eo23|(injection eo23 with f1_ f2_ f3_;have f4_:=f1_.symm;have f5_:=f3_.symm;clear f1_ f2_ f3_;subst f4_;subst f5_))
    refine norm_ (a':=?_) ?_ ?_;rotate_left
    ·
     simp only [putAll,Act.put,List.setIfInBounds_toArray,List.set_cons_zero,List.set_cons_succ]
     rfl
    refine one_ (i:=10) (N:=none) #[true,true,true,true,true,true,true,true,true,true,true] rfl rfl (one_of HT_.out (by kernel_rfl)) (by decide) (fun K hK => ?_)
    have hs24 : w21.cell? ⟨gb570,0,none⟩ = some (.slice none 0 0):=(blk_cell BK570.out 0).trans rfl
    have hfs24:=blk_frozen BK570.out 0;have hns24_0:=NB555_570.out;have hns24_1:=NB556_570.out;have hms24_0:=NB570_555.out;have hms24_1:=NB570_556.out
    have hs25 : w21.cell? ⟨gb570,1,none⟩ = some (.slice none 0 0):=(blk_cell BK570.out 1).trans rfl
    have hfs25:=blk_frozen BK570.out 1;have hns25_0:=NB555_570.out;have hns25_1:=NB556_570.out;have hms25_0:=NB570_555.out;have hms25_1:=NB570_556.out
    have hs26 : w21.cell? ⟨gb570,2,none⟩ = some (.slice none 0 0):=(blk_cell BK570.out 2).trans rfl
    have hfs26:=blk_frozen BK570.out 2;have hns26_0:=NB555_570.out;have hns26_1:=NB556_570.out;have hms26_0:=NB570_555.out;have hms26_1:=NB570_556.out
    refine skip_ (w1:=?_) (by rfl) rfl ?_ ?_;rotate_left
    ·
     go_simp
     rfl
    refine hK.out _ _ ⟨((cell_far (p:=⟨gb570,_,none⟩) NB555_570.out _).trans (((cell_far (p:=⟨gb570,_,none⟩) NB555_570.out _).trans (((cell_far (p:=⟨gb570,_,none⟩) NB555_570.out _).trans (hHeld.1)))))),((cell_far (p:=⟨gb570,_,none⟩) NB555_570.out _).trans (((cell_far (p:=⟨gb570,_,none⟩) NB555_570.out _).trans (((cell_far (p:=⟨gb570,_,none⟩) NB555_570.out _).trans (hHeld.2.1)))))),((cell_far (p:=⟨gb570,_,none⟩) NB555_570.out _).trans (((cell_far (p:=⟨gb570,_,none⟩) NB555_570.out _).trans (((cell_far (p:=⟨gb570,_,none⟩) NB555_570.out _).trans (hHeld.2.2))))))⟩ (fun hHeld => ?_);clear hK K
    refine done_ (done_of HT_.out (by kernel_rfl)) ?_;have hnb27:=NB555_570.out;have hnc27:=NB570_555.out
    have hcz28_0 : w21.cell? ⟨gb555,0,none⟩ = some (.slice A0_0 l0_0.length c0_0):=(blk_cell BK555.out 0).trans rfl
    have hcz28_1 : w21.cell? ⟨gb555,1,none⟩ = some (.slice A0_1 l0_1.length c0_1):=(blk_cell BK555.out 1).trans rfl
    have hcz28_2 : w21.cell? ⟨gb555,2,none⟩ = some (.slice A0_2 l0_2.length c0_2):=(blk_cell BK555.out 2).trans rfl
    have hfz28_0:=blk_frozen BK555.out 0
    have hfz28_1:=blk_frozen BK555.out 1
    have hfz28_2:=blk_frozen BK555.out 2
    try go_wp2
    go_loopg [22] k (fun kq v22 w' => ∃ (x22_1 : Int) (x571002_1 : List Int) (u571002 : Value),v22 = .int .i64 x22_1 ∧ Aside0 (impl_MachineNot.l0 kq l0_2 (l0_2.length : Int) x22_1 y561 y567 x571002_1 = some (r1,r2,r3)) ∧ Aside0 (kq ≤ k) ∧ Aside0 (Kd.R (Kd.int .i64) 3 w' w.heap.size (fun k_ => some k_ ≠ ((.slice Ao22 y567.length co22) : Value).ownBlock ∧ some k_ ≠ (u571002 : Value).ownBlock) (.slice Ao23 y561.length co23) y561) ∧ Aside0 (Kd.R (Kd.int .i64) 3 w' w.heap.size (fun k_ => some k_ ≠ ((.slice Ao23 y561.length co23) : Value).ownBlock ∧ some k_ ≠ (u571002 : Value).ownBlock) (.slice Ao22 y567.length co22) y567) ∧ Aside0 (Kd.R (Kd.int .i64) 3 w' w.heap.size (fun k_ => some k_ ≠ ((.slice Ao23 y561.length co23) : Value).ownBlock ∧ some k_ ≠ ((.slice Ao22 y567.length co22) : Value).ownBlock) u571002 x571002_1) ∧ Aside0 (w'.heap[gb555]? = some (.cells #[(.slice A0_0 l0_0.length c0_0),(.slice A0_1 l0_1.length c0_1),(.slice A0_2 l0_2.length c0_2)] 26 (0,0))) ∧ Aside0 (w'.heap[gb556]? = some (.cells #[(.slice none 0 0),(.slice none 0 0),(.slice none 0 0)] 26 (0,0))) ∧ Aside0 (w'.heap[gb570]? = some (.cells #[(.slice Ao23 y561.length co23),(.slice Ao22 y567.length co22),u571002] 26 (0,0))) ∧ Aside0 (Below w.heap.size w w'))
    case atStart => exact ⟨(0),(([] : List Int)),(.slice none 0 0),(by first|rfl|(simp;done)|(simp [*];done)),H',⟨Nat.le_refl _⟩,⟨by (with_reducible repeat (first|apply Kd.R_alloc|apply Kd.R_drewN|apply Kd.R_drew));exact Kd.R_mono (Kd.R_far (p:=⟨gb570,2,none⟩) (Kd.R_far (p:=⟨gb570,1,none⟩) (Kd.R_far (p:=⟨gb570,0,none⟩) (Kd.R_types HO563.out BK570.out (by decide)) (fun _ hk => hk.2) (.slice Ao23 y561.length co23)) (fun _ hk => hk.2) (.slice Ao22 y567.length co22)) (fun _ hk => hk.2) (.slice none 0 0)) (fun _ hk => ⟨hk.1,(by simp [Value.ownBlock])⟩)⟩,⟨by (with_reducible repeat (first|apply Kd.R_alloc|apply Kd.R_drewN|apply Kd.R_drew));exact Kd.R_mono (Kd.R_far (p:=⟨gb570,2,none⟩) (Kd.R_far (p:=⟨gb570,1,none⟩) (Kd.R_far (p:=⟨gb570,0,none⟩) (Kd.R_types HO569.out BK570.out (by decide)) (fun _ hk => hk.2) (.slice Ao23 y561.length co23)) (fun _ hk => hk.2) (.slice Ao22 y567.length co22)) (fun _ hk => hk.2) (.slice none 0 0)) (fun _ hk => ⟨hk.1,(by simp [Value.ownBlock])⟩)⟩,⟨by first|exact Kd.R_nil _ _ _ _ _|exact Kd.N_nil _ _ _ _ _|exact Kd.V_nil _ _ _ _ _|exact Kd.Q_nil _ _ _ _ _|exact Kd.S_nil _ _ _ _ _⟩,⟨by (with_reducible repeat (first|refine blk_drewN ?_ _|refine blk_drew ?_|refine blk_alloc ?_ _));refine blk_far ?_ NB555_570.out _;(with_reducible repeat (first|refine blk_drewN ?_ _|refine blk_drew ?_|refine blk_alloc ?_ _));refine blk_far ?_ NB555_570.out _;(with_reducible repeat (first|refine blk_drewN ?_ _|refine blk_drew ?_|refine blk_alloc ?_ _));refine blk_far ?_ NB555_570.out _;(with_reducible repeat (first|refine blk_drewN ?_ _|refine blk_drew ?_|refine blk_alloc ?_ _));exact BK555.out⟩,⟨by (with_reducible repeat (first|refine blk_drewN ?_ _|refine blk_drew ?_|refine blk_alloc ?_ _));refine blk_far ?_ NB556_570.out _;(with_reducible repeat (first|refine blk_drewN ?_ _|refine blk_drew ?_|refine blk_alloc ?_ _));refine blk_far ?_ NB556_570.out _;(with_reducible repeat (first|refine blk_drewN ?_ _|refine blk_drew ?_|refine blk_alloc ?_ _));refine blk_far ?_ NB556_570.out _;(with_reducible repeat (first|refine blk_drewN ?_ _|refine blk_drew ?_|refine blk_alloc ?_ _));exact BK556.out⟩,⟨by (with_reducible repeat (first|refine blk_drewN ?_ _|refine blk_drew ?_|refine blk_alloc ?_ _));refine blk_put (cs:=#[.slice Ao23 y561.length co23,.slice Ao22 y567.length co22,.slice none 0 0]) ?_ 2 _ rfl;(with_reducible repeat (first|refine blk_drewN ?_ _|refine blk_drew ?_|refine blk_alloc ?_ _));refine blk_put (cs:=#[.slice Ao23 y561.length co23,.slice none 0 0,.slice none 0 0]) ?_ 1 _ rfl;(with_reducible repeat (first|refine blk_drewN ?_ _|refine blk_drew ?_|refine blk_alloc ?_ _));refine blk_put (cs:=#[.slice none 0 0,.slice none 0 0,.slice none 0 0]) ?_ 0 _ rfl;(with_reducible repeat (first|refine blk_drewN ?_ _|refine blk_drew ?_|refine blk_alloc ?_ _));exact BK570.out⟩,⟨by repeat (first|(with_reducible first|exact HB.out|apply below_alloc|apply pw_below_drewN|apply below_drew1|refine below_set ?_ GE555.out|refine below_set ?_ GE556.out|refine below_set ?_ GE570.out)|exact HB.out)⟩⟩
    case round =>
     clear H'
     try clear c2
     try clear p2
     try clear c4
     try clear c5
     try clear c27
     try clear hcz28_0
     try clear hcz28_1
     try clear hcz28_2
     try clear hfz28_0
     try clear hfz28_1
     try clear hfz28_2
     obtain ⟨x22_1,x571002_1,u571002,rfl,HA,HK1,HO_571000,HO_571001,HO_571002,BK555,BK556,BK570,HB⟩:=hrel
     cases gk with
     | zero => exact absurd HA.out (by simp [impl_MachineNot.l0])
     | succ k1 =>
      have H:=HA.out;clear HA
      simp only [impl_MachineNot.l0] at H
      by_cases c29 : x22_1 < (l0_2.length : Int)
      ·
       rw [if_pos c29] at H
       have c29b0 : decide (x22_1 < (l0_2.length : Int)) = true:=decide_eq_true c29;clear c29
       by_cases c30 : 0 ≤ x22_1
       ·
        rw [if_pos c30] at H
        have c30b0 : decide (0 ≤ x22_1) = true:=decide_eq_true c30;clear c30
        by_cases c31 : x22_1 < (l0_2.length : Int)
        ·
         rw [if_pos c31] at H
         have c31b0 : decide (x22_1 < (l0_2.length : Int)) = true:=decide_eq_true c31;clear c31
         by_cases c32 : x571002_1.length < 17592186044416
         ·
          rw [if_pos c32] at H
          have LMc32:=Aside0.mk c32;clear c32
          obtain ⟨y572,hy572⟩ : ∃ y_ : List Int,y_ = (x571002_1 ++ [wrap64 (1 - (rd l0_2 x22_1))]):=⟨_,rfl⟩
          replace H : (impl_MachineNot.l0 k1 l0_2 (l0_2.length : Int) (wrap64 (x22_1 + 1)) y561 y567 y572) = some (r1,r2,r3):=by first|(rw [hy572];with_reducible exact H)|(have H2_:=(Option.bind_some _ _).symm.trans H;rw [hy572];with_reducible exact H2_)|(have H2_:=(Option.bind_some _ _).symm.trans H;with_reducible exact H2_)|with_reducible exact H|(rw [hy572];exact H)|exact H
          have Ny572:=Aside0.mk hy572;clear hy572
          have H':=Aside0.mk H;clear H
          have p571 : 0 ≤ (x22_1 : Int):=of_decide_eq_true (by first|(with_reducible assumption)|assumption)
          have q571 : x22_1 < (l0_2.length : Int):=of_decide_eq_true (by first|(with_reducible assumption)|assumption)
          obtain ⟨ad571,e571,hx571_0⟩:=Kd.at_int HR0_2.out x22_1 p571 q571
          cases e571
          replace hx571_0:=(HB.out.cell (World.block_lt_of_cell? w _ hx571_0)).trans hx571_0
          replace p571:=eq_true p571
          replace q571:=eq_true q571;have hnb33:=NB570_555.out;have hnc33:=NB555_570.out;have hnb34:=NB570_556.out;have hnc34:=NB556_570.out
          have hcz35_0 : wr.cell? ⟨gb570,0,none⟩ = some (.slice Ao23 y561.length co23):=(blk_cell BK570.out 0).trans rfl
          have hcz35_1 : wr.cell? ⟨gb570,1,none⟩ = some (.slice Ao22 y567.length co22):=(blk_cell BK570.out 1).trans rfl
          have hcz35_2 : wr.cell? ⟨gb570,2,none⟩ = some (u571002):=(blk_cell BK570.out 2).trans rfl
          have hfz35_0:=blk_frozen BK570.out 0
          have hfz35_1:=blk_frozen BK570.out 1
          have hfz35_2:=blk_frozen BK570.out 2
          go_wp2_with (first|((with_reducible refine gate_builtin (b:=.append) (xs:=#[.tmp 27,.tmp 30]) rfl ?_);at_builtin;refine Kd.R_append (Kd.int .i64) (w0:=w) w.heap.size rfl (.tmp 27) (.tmp 30) 24 3 (.int .i64 0) 8 rfl Try.underlying24 info3 rfl (by decide) (by omega) u571002 x571002_1 (wrap64 (1 - (rd l0_2 x22_1))) [.int .i64 (wrap64 (1 - (rd l0_2 x22_1)))] (fun k_ => some k_ ≠ (.slice Ao23 y561.length co23 : Value).ownBlock ∧ some k_ ≠ (.slice Ao22 y567.length co22 : Value).ownBlock) (fun _ => False) rfl rfl ?aP (fun _ hk => hk.elim) ?aF ?aO ?aB ?aS ?aL ?_;(case aP => exact rfl);(case aB => exact (by repeat (first|(with_reducible first|exact HB.out|apply below_alloc|apply pw_below_drewN|apply below_drew1|refine below_set ?_ GE555.out|refine below_set ?_ GE556.out|refine below_set ?_ GE570.out)|exact HB.out)));(case aF => exact (fun k_ hk => ⟨Kd.fresh' (Kd.R_lt (rU HO_571000.out)) k_ hk,Kd.fresh' (Kd.R_lt (rU HO_571001.out)) k_ hk⟩));(case aO => exact (rU HO_571002.out));(case aS => exact (below_size (by repeat (first|(with_reducible first|exact HB.out|apply below_alloc|apply pw_below_drewN|apply below_drew1|refine below_set ?_ GE555.out|refine below_set ?_ GE556.out|refine below_set ?_ GE570.out)|exact HB.out))));(case aL => have:=LMc32.out;omega);intro v573 w36 ho hb hg hat;rw [← Ny572.out] at ho;have n0_:=Aside0.mk (Kd.R_after (ok:=(fun k_ => some k_ ≠ (.slice Ao22 y567.length co22 : Value).ownBlock)) (rU HO_571000.out) hg hat);have n1_:=Aside0.mk (Kd.R_after (ok:=(fun k_ => some k_ ≠ (.slice Ao23 y561.length co23 : Value).ownBlock)) (rU HO_571001.out) hg hat);have n2_:=Aside0.mk (blk_grown (g:=gb555) (o:=.cells #[.slice A0_0 l0_0.length c0_0,.slice A0_1 l0_1.length c0_1,.slice (some ad571) l0_2.length c0_2] 26 (0,0)) (blkU BK555.out) hg (Kd.R_ne HO_571002.out BK555.out (by decide)));have n3_:=Aside0.mk (blk_grown (g:=gb556) (o:=.cells #[.slice none 0 0,.slice none 0 0,.slice none 0 0] 26 (0,0)) (blkU BK556.out) hg (Kd.R_ne HO_571002.out BK556.out (by decide)));have n4_:=Aside0.mk (blk_grown (g:=gb570) (o:=.cells #[.slice Ao23 y561.length co23,.slice Ao22 y567.length co22,u571002] 26 (0,0)) (blkU BK570.out) hg (Kd.R_ne HO_571002.out BK570.out (by decide)));have n5_:=Aside0.mk (hb);have n6_:=Aside0.mk (ho);clear HO_571000 HO_571001 BK555 BK556 BK570 HB HO_571002;have HO_571000:=n0_;have HO_571001:=n1_;have BK555:=n2_;have BK556:=n3_;have BK570:=n4_;have HB:=n5_;have HO574:=n6_;clear n0_ n1_ n2_ n3_ n4_ n5_ n6_ ho hb hg hat;obtain ⟨Ao37,co37,eo37⟩:=Kd.R_slice HO574.out;subst eo37;have hcz38_0 : w36.cell? ⟨gb570,0,none⟩ = some (.slice Ao23 y561.length co23):=(blk_cell BK570.out 0).trans rfl;have hcz38_1 : w36.cell? ⟨gb570,1,none⟩ = some (.slice Ao22 y567.length co22):=(blk_cell BK570.out 1).trans rfl;have hcz38_2 : w36.cell? ⟨gb570,2,none⟩ = some (u571002):=(blk_cell BK570.out 2).trans rfl;have hfz38_0:=blk_frozen BK570.out 0;have hfz38_1:=blk_frozen BK570.out 1;have hfz38_2:=blk_frozen BK570.out 2))
          go_roundg k1
          case measure => have:=HK1.out;omega
          case rel => exact ⟨(wrap64 (x22_1 + 1)),(y572),(.slice Ao37 y572.length co37),(by first|rfl|(simp;done)|(simp [*];done)),H',⟨by have:=HK1.out;omega⟩,⟨by (with_reducible repeat (first|apply Kd.R_alloc|apply Kd.R_drewN|apply Kd.R_drew));exact Kd.R_mono (Kd.R_far (p:=⟨gb570,2,none⟩) (Kd.R_types HO_571000.out BK570.out (by decide)) (fun _ hk => hk.2) (.slice Ao37 y572.length co37)) (fun _ hk => ⟨hk.1.1,hk.1.2⟩)⟩,⟨by (with_reducible repeat (first|apply Kd.R_alloc|apply Kd.R_drewN|apply Kd.R_drew));exact Kd.R_mono (Kd.R_far (p:=⟨gb570,2,none⟩) (Kd.R_types HO_571001.out BK570.out (by decide)) (fun _ hk => hk.2) (.slice Ao37 y572.length co37)) (fun _ hk => ⟨hk.1.1,hk.1.2⟩)⟩,⟨by (with_reducible repeat (first|apply Kd.R_alloc|apply Kd.R_drewN|apply Kd.R_drew));exact Kd.R_mono (Kd.R_far (p:=⟨gb570,2,none⟩) (Kd.R_types HO574.out BK570.out (by decide)) (fun _ hk => hk.2) (.slice Ao37 y572.length co37)) (fun _ hk => ⟨hk.1.1,hk.1.2⟩)⟩,⟨by (with_reducible repeat (first|refine blk_drewN ?_ _|refine blk_drew ?_|refine blk_alloc ?_ _));refine blk_far ?_ NB555_570.out _;(with_reducible repeat (first|refine blk_drewN ?_ _|refine blk_drew ?_|refine blk_alloc ?_ _));exact BK555.out⟩,⟨by (with_reducible repeat (first|refine blk_drewN ?_ _|refine blk_drew ?_|refine blk_alloc ?_ _));refine blk_far ?_ NB556_570.out _;(with_reducible repeat (first|refine blk_drewN ?_ _|refine blk_drew ?_|refine blk_alloc ?_ _));exact BK556.out⟩,⟨by (with_reducible repeat (first|refine blk_drewN ?_ _|refine blk_drew ?_|refine blk_alloc ?_ _));refine blk_put (cs:=#[.slice Ao23 y561.length co23,.slice Ao22 y567.length co22,u571002]) ?_ 2 _ rfl;(with_reducible repeat (first|refine blk_drewN ?_ _|refine blk_drew ?_|refine blk_alloc ?_ _));exact BK570.out⟩,⟨by repeat (first|(with_reducible first|exact HB.out|apply below_alloc|apply pw_below_drewN|apply below_drew1|refine below_set ?_ GE555.out|refine below_set ?_ GE556.out|refine below_set ?_ GE570.out)|exact HB.out)⟩⟩
         ·
          rw [if_neg c32] at H
          exact absurd H (by simp)
        ·
         rw [if_neg c31] at H
         exact absurd H (by simp)
       ·
        rw [if_neg c30] at H
        exact absurd H (by simp)
      ·
       rw [if_neg c29] at H
       have c29b0 : decide (x22_1 < (l0_2.length : Int)) = false:=decide_eq_false c29;clear c29
       simp only [Option.some.injEq,Prod.mk.injEq] at H
       obtain ⟨rfl,rfl,rfl⟩:=H;have hnb39:=NB570_555.out;have hnc39:=NB555_570.out;have hnb40:=NB570_556.out;have hnc40:=NB556_570.out
       have hcz41_0 : wr.cell? ⟨gb570,0,none⟩ = some (.slice Ao23 y561.length co23):=(blk_cell BK570.out 0).trans rfl
       have hcz41_1 : wr.cell? ⟨gb570,1,none⟩ = some (.slice Ao22 y567.length co22):=(blk_cell BK570.out 1).trans rfl
       have hcz41_2 : wr.cell? ⟨gb570,2,none⟩ = some (u571002):=(blk_cell BK570.out 2).trans rfl
       have hfz41_0:=blk_frozen BK570.out 0
       have hfz41_1:=blk_frozen BK570.out 1
       have hfz41_2:=blk_frozen BK570.out 2;have hnb42:=NB556_555.out;have hnc42:=NB555_556.out
       have hcz43_0 : wr.cell? ⟨gb556,0,none⟩ = some (.slice none 0 0):=(blk_cell BK556.out 0).trans rfl
       have hcz43_1 : wr.cell? ⟨gb556,1,none⟩ = some (.slice none 0 0):=(blk_cell BK556.out 1).trans rfl
       have hcz43_2 : wr.cell? ⟨gb556,2,none⟩ = some (.slice none 0 0):=(blk_cell BK556.out 2).trans rfl
       have hfz43_0:=blk_frozen BK556.out 0
       have hfz43_1:=blk_frozen BK556.out 1
       have hfz43_2:=blk_frozen BK556.out 2
       obtain ⟨Ao44,co44,eo44⟩:=Kd.R_slice HO_571002.out;subst eo44
       go_wp2
       refine bodyPost_ret (results_cell_row rfl _ _ gb556 26 #[.slice Ao23 y561.length co23,.slice Ao22 y567.length co22,.slice Ao44 x571002_1.length co44] (0,0) _ rfl (by (with_reducible repeat (first|refine blk_drewN ?_ _|refine blk_drew ?_|refine blk_alloc ?_ _));refine blk_put (cs:=#[.slice Ao23 y561.length co23,.slice Ao22 y567.length co22,.slice none 0 0]) ?_ 2 _ rfl;(with_reducible repeat (first|refine blk_drewN ?_ _|refine blk_drew ?_|refine blk_alloc ?_ _));refine blk_put (cs:=#[.slice Ao23 y561.length co23,.slice none 0 0,.slice none 0 0]) ?_ 1 _ rfl;(with_reducible repeat (first|refine blk_drewN ?_ _|refine blk_drew ?_|refine blk_alloc ?_ _));refine blk_put (cs:=#[.slice none 0 0,.slice none 0 0,.slice none 0 0]) ?_ 0 _ rfl;(with_reducible repeat (first|refine blk_drewN ?_ _|refine blk_drew ?_|refine blk_alloc ?_ _));exact BK556.out) Try.underlying26 rfl (by kernel_rfl)) rfl ?_
       exact ⟨_,_,_,by first|rfl|(simp [errW_none,errW_some] <;> rfl)|(simp [*,errW_none,errW_some] <;> rfl),by (with_reducible repeat (first|apply Kd.R_alloc|apply Kd.R_drewN|apply Kd.R_drew));exact Kd.R_mono (Kd.R_far (p:=⟨gb556,2,none⟩) (Kd.R_far (p:=⟨gb556,1,none⟩) (Kd.R_far (p:=⟨gb556,0,none⟩) (Kd.R_types HO_571000.out BK556.out (by decide)) (fun _ hk => hk.2) (.slice Ao23 y561.length co23)) (fun _ hk => hk.2) (.slice Ao22 y567.length co22)) (fun _ hk => hk.2) (.slice Ao44 x571002_1.length co44)) (fun _ hk => ⟨hk.1.1,hk.1.2⟩),by (with_reducible repeat (first|apply Kd.R_alloc|apply Kd.R_drewN|apply Kd.R_drew));exact Kd.R_mono (Kd.R_far (p:=⟨gb556,2,none⟩) (Kd.R_far (p:=⟨gb556,1,none⟩) (Kd.R_far (p:=⟨gb556,0,none⟩) (Kd.R_types HO_571001.out BK556.out (by decide)) (fun _ hk => hk.2) (.slice Ao23 y561.length co23)) (fun _ hk => hk.2) (.slice Ao22 y567.length co22)) (fun _ hk => hk.2) (.slice Ao44 x571002_1.length co44)) (fun _ hk => ⟨hk.1.1,hk.1.2⟩),by (with_reducible repeat (first|apply Kd.R_alloc|apply Kd.R_drewN|apply Kd.R_drew));exact Kd.R_mono (Kd.R_far (p:=⟨gb556,2,none⟩) (Kd.R_far (p:=⟨gb556,1,none⟩) (Kd.R_far (p:=⟨gb556,0,none⟩) (Kd.R_types HO_571002.out BK556.out (by decide)) (fun _ hk => hk.2) (.slice Ao23 y561.length co23)) (fun _ hk => hk.2) (.slice Ao22 y567.length co22)) (fun _ hk => hk.2) (.slice Ao44 x571002_1.length co44)) (fun _ hk => ⟨hk.1.1,hk.1.2⟩),by repeat (first|(with_reducible first|exact HB.out|apply below_alloc|apply pw_below_drewN|apply below_drew1|refine below_set ?_ GE555.out|refine below_set ?_ GE556.out|refine below_set ?_ GE570.out)|exact HB.out)⟩
   ·
    rw [if_neg c5] at H
    exact absurd H (by simp)
  ·
   rw [if_neg c4] at H
   exact absurd H (by simp)
 ·
  replace c3:=Bool.eq_false_iff.mpr c3;subst c3
  have H1 : (some (([] : List Int),([] : List Int),([] : List Int))) = some (r1,r2,r3):=by rw [if_neg (show ¬ (false = true) by decide)] at H;exact H
  clear H;have H:=H1;clear H1
  simp only [Option.some.injEq,Prod.mk.injEq] at H
  obtain ⟨rfl,rfl,rfl⟩:=H
  go_enter Try.func17,Try.ntmps17
  go_wp2_with (first|((with_reducible refine gate_dst (N:=1) rfl ?_);refine box_event ?hg (N:=1) ?hd (cs:=#[.slice A0_0 l0_0.length c0_0,.slice A0_1 l0_1.length c0_1,.slice A0_2 l0_2.length c0_2]) (t:=26) ?hr ?_;(case hd => rfl);(case hg => rfl);(case hr => first|(go_simp;done)|(go_simp;rfl));intro gb555 hg w45 hbox hb;have n0_:=Aside0.mk (below_step (belU HB.out) hb);have n1_:=Aside0.mk (hbox);have n2_:=Aside0.mk ((by rw [hg];exact (below_size (belU HB.out)) : w.heap.size ≤ gb555));have n3_:=Aside0.mk ((by rw [hg];exact (below_size (belU HB.out)) : w.heap.size ≤ gb555));clear HB;have HB:=n0_;have BK555:=n1_;have GW555:=n2_;have GE555:=n3_;clear n0_ n1_ n2_ n3_ hb hbox hg)|((with_reducible refine gate_dst (N:=2) rfl ?_);refine box_event ?hg (N:=2) ?hd (cs:=#[.slice none 0 0,.slice none 0 0,.slice none 0 0]) (t:=26) ?hr ?_;(case hd => rfl);(case hg => rfl);(case hr => first|(go_simp;done)|(go_simp;rfl));intro gb556 hg w46 hbox hb;have n0_:=Aside0.mk (blk_below (g:=gb555) (o:=.cells #[.slice A0_0 l0_0.length c0_0,.slice A0_1 l0_1.length c0_1,.slice A0_2 l0_2.length c0_2] 26 (0,0)) (blkU BK555.out) hb);have n1_:=Aside0.mk (below_step (by repeat (first|(with_reducible first|exact HB.out|apply below_alloc|apply pw_below_drewN|apply below_drew1|refine below_set ?_ GE555.out)|exact HB.out)) hb);have n2_:=Aside0.mk (hbox);have n3_:=Aside0.mk ((by rw [hg];exact (below_size (by repeat (first|(with_reducible first|exact HB.out|apply below_alloc|apply pw_below_drewN|apply below_drew1|refine below_set ?_ GE555.out)|exact HB.out))) : w.heap.size ≤ gb556));have n4_:=Aside0.mk ((by rw [hg];exact (below_size (by repeat (first|(with_reducible first|exact HB.out|apply below_alloc|apply pw_below_drewN|apply below_drew1|refine below_set ?_ GE555.out)|exact HB.out))) : w.heap.size ≤ gb556));have n5_:=Aside0.mk ((by rw [hg];exact Nat.ne_of_lt (blk_lt (g:=gb555) (o:=.cells #[.slice A0_0 l0_0.length c0_0,.slice A0_1 l0_1.length c0_1,.slice A0_2 l0_2.length c0_2] 26 (0,0)) (blkU BK555.out)) : gb555 ≠ gb556));have n6_:=Aside0.mk ((by rw [hg];exact Nat.ne_of_gt (blk_lt (g:=gb555) (o:=.cells #[.slice A0_0 l0_0.length c0_0,.slice A0_1 l0_1.length c0_1,.slice A0_2 l0_2.length c0_2] 26 (0,0)) (blkU BK555.out)) : gb556 ≠ gb555));clear BK555 HB;have BK555:=n0_;have HB:=n1_;have BK556:=n2_;have GW556:=n3_;have GE556:=n4_;have NB555_556:=n5_;have NB556_555:=n6_;clear n0_ n1_ n2_ n3_ n4_ n5_ n6_ hb hbox hg;have hnb47:=NB555_556.out;have hnc47:=NB556_555.out;have hcz48_0 : w46.cell? ⟨gb555,0,none⟩ = some (.slice A0_0 l0_0.length c0_0):=(blk_cell BK555.out 0).trans rfl;have hcz48_1 : w46.cell? ⟨gb555,1,none⟩ = some (.slice A0_1 l0_1.length c0_1):=(blk_cell BK555.out 1).trans rfl;have hcz48_2 : w46.cell? ⟨gb555,2,none⟩ = some (.slice A0_2 l0_2.length c0_2):=(blk_cell BK555.out 2).trans rfl;have hfz48_0:=blk_frozen BK555.out 0;have hfz48_1:=blk_frozen BK555.out 1;have hfz48_2:=blk_frozen BK555.out 2)|((with_reducible refine gate_callee (f:=26) rfl ?_);refine goesL_ (some 7) rfl rfl Try.func26 (by kernel_rfl) rfl #[.agg #[.slice A0_0 l0_0.length c0_0,.slice A0_1 l0_1.length c0_1,.slice A0_2 l0_2.length c0_2]] rfl (by (try simp only [List.map_toArray,List.map_cons,List.map_nil]);first|done|rfl|(simp only [List.length_drop,List.length_take];rfl)) ?_;(with_reducible refine (impl_isMachine.calls k _ _ l0_0 _ _ l0_1 _ _ l0_2 false _ ?side1 ?side2 ?side3 ?side4 ?side5 ?side6 A2.out).mono ?_);(case side1 => exact cU (Kd.C_below HR0_0.out HB.out));(case side2 => exact HC0_0.out);(case side3 => exact cU (Kd.C_below HR0_1.out HB.out));(case side4 => exact HC0_1.out);(case side5 => exact cU (Kd.C_below HR0_2.out HB.out));(case side6 => exact HC0_2.out);rintro e w49 ⟨rfl,hb⟩;refine ⟨_,rfl,?_⟩;have n0_:=Aside0.mk (blk_below (g:=gb555) (o:=.cells #[.slice A0_0 l0_0.length c0_0,.slice A0_1 l0_1.length c0_1,.slice A0_2 l0_2.length c0_2] 26 (0,0)) (blkU BK555.out) hb);have n1_:=Aside0.mk (blk_below (g:=gb556) (o:=.cells #[.slice none 0 0,.slice none 0 0,.slice none 0 0] 26 (0,0)) (blkU BK556.out) hb);have n2_:=Aside0.mk (below_step (by repeat (first|(with_reducible first|exact HB.out|apply below_alloc|apply pw_below_drewN|apply below_drew1|refine below_set ?_ GE555.out|refine below_set ?_ GE556.out)|exact HB.out)) hb);clear BK555 BK556 HB;have BK555:=n0_;have BK556:=n1_;have HB:=n2_;clear n0_ n1_ n2_;(try clear hb);(try clear hb2);(try clear hk);(try clear hi);have hcz50_0 : w49.cell? ⟨gb556,0,none⟩ = some (.slice none 0 0):=(blk_cell BK556.out 0).trans rfl;have hcz50_1 : w49.cell? ⟨gb556,1,none⟩ = some (.slice none 0 0):=(blk_cell BK556.out 1).trans rfl;have hcz50_2 : w49.cell? ⟨gb556,2,none⟩ = some (.slice none 0 0):=(blk_cell BK556.out 2).trans rfl;have hfz50_0:=blk_frozen BK556.out 0;have hfz50_1:=blk_frozen BK556.out 1;have hfz50_2:=blk_frozen BK556.out 2))
  refine bodyPost_ret (results_cell_row rfl _ _ gb556 26 #[.slice none 0 0,.slice none 0 0,.slice none 0 0] (0,0) _ rfl (by (with_reducible repeat (first|refine blk_drewN ?_ _|refine blk_drew ?_|refine blk_alloc ?_ _));refine blk_put (cs:=#[.slice none 0 0,.slice none 0 0,.slice none 0 0]) ?_ 2 _ rfl;(with_reducible repeat (first|refine blk_drewN ?_ _|refine blk_drew ?_|refine blk_alloc ?_ _));refine blk_put (cs:=#[.slice none 0 0,.slice none 0 0,.slice none 0 0]) ?_ 1 _ rfl;(with_reducible repeat (first|refine blk_drewN ?_ _|refine blk_drew ?_|refine blk_alloc ?_ _));refine blk_put (cs:=#[.slice none 0 0,.slice none 0 0,.slice none 0 0]) ?_ 0 _ rfl;(with_reducible repeat (first|refine blk_drewN ?_ _|refine blk_drew ?_|refine blk_alloc ?_ _));exact BK556.out) Try.underlying26 rfl (by kernel_rfl)) rfl ?_
  exact ⟨_,_,_,by first|rfl|(simp [errW_none,errW_some] <;> rfl)|(simp [*,errW_none,errW_some] <;> rfl),by first|exact Kd.R_nil _ _ _ _ _|exact Kd.N_nil _ _ _ _ _|exact Kd.V_nil _ _ _ _ _|exact Kd.Q_nil _ _ _ _ _|exact Kd.S_nil _ _ _ _ _,by first|exact Kd.R_nil _ _ _ _ _|exact Kd.N_nil _ _ _ _ _|exact Kd.V_nil _ _ _ _ _|exact Kd.Q_nil _ _ _ _ _|exact Kd.S_nil _ _ _ _ _,by first|exact Kd.R_nil _ _ _ _ _|exact Kd.N_nil _ _ _ _ _|exact Kd.V_nil _ _ _ _ _|exact Kd.Q_nil _ _ _ _ _|exact Kd.S_nil _ _ _ _ _,by repeat (first|(with_reducible first|exact HB.out|apply below_alloc|apply pw_below_drewN|apply below_drew1|refine below_set ?_ GE555.out|refine below_set ?_ GE556.out)|exact HB.out)⟩

end Go.Proofs.Ytiplbleghaoehaa.PA
