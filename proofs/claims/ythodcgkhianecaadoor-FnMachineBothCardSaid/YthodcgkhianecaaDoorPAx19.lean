/- The machine side of functions of this seat, written by the session's program myprint.py: for each Go function a Lean function and the proof that the call answers just it. -/
import Derived.Test.YthodcgkhianecaaDoorPAx0
import Derived.Test.YthodcgkhianecaaDoorUp
import Derived.Test.YthodcgkhianecaaDoorPAx18
namespace Go.Proofs.YthodcgkhianecaaDoor.PA
open Go.RowKit Go.Proofs.YthodcgkhianecaaDoorW.PrintWords Go.Proofs.YthodcgkhianecaaDoorW.PrintLast Go.Proofs.YthodcgkhianecaaDoorW.PrintMore
attribute [local go_sem] max2_int min2_int max_two min_two max_three min_three max_four min_four   -- for this text's walks alone
set_option linter.unusedVariables false
set_option linter.unusedSimpArgs false

/-! ### impl_Machine_reached: function 49 -/
mutual
def impl_Machine_reached.l0 : Nat → List Int → Int → List Int → List Int → List Int → Option (List Int)
 | 0,_,_,_,_,_ => none
 | k + 1,x5,x6,x383000,x383001,x383002 => if x6 < (x5.length : Int) then (if 0 ≤ x6 then (if 0 ≤ (rd x5 x6) then (if (rd x5 x6) < (x383000.length : Int) then (if (rd x5 x6) < (x383001.length : Int) then ((some (([rd x383000 (rd x5 x6),rd x383001 (rd x5 x6)] : List Int) : List Int)).bind fun y390 => (impl_Machine_reached.l1 k x5 x6 y390 (y390.length : Int) 0 x383000 x383001 x383002)) else (none)) else (none)) else (none)) else (none)) else (some x5)
def impl_Machine_reached.l1 : Nat → List Int → Int → List Int → Int → Int → List Int → List Int → List Int → Option (List Int)
 | 0,_,_,_,_,_,_,_,_ => none
 | k + 1,x5,x6,x33,x34,x35,x383000,x383001,x383002 => if x35 < x34 then (if 0 ≤ x35 then (if x35 < (x33.length : Int) then ((slices_Contains_int_int.f k x5 (rd x33 x35)).bind fun t394 => (if t394 = true then (impl_Machine_reached.l1 k x5 x6 x33 x34 (wrap64 (x35 + 1)) x383000 x383001 x383002) else (if x5.length < 17592186044416 then (impl_Machine_reached.l1 k (x5 ++ [rd x33 x35]) x6 x33 x34 (wrap64 (x35 + 1)) x383000 x383001 x383002) else (none)))) else (none)) else (none)) else (impl_Machine_reached.l0 k x5 (wrap64 (x6 + 1)) x383000 x383001 x383002)
end
def impl_Machine_reached.f (k : Nat) (l0_0 : List Int) (l0_1 : List Int) (l0_2 : List Int) (a1 : Int) : Option (List Int):=impl_Machine_reached.l0 k (([a1] : List Int)) 0 l0_0 l0_1 l0_2
theorem impl_Machine_reached.mono_l : ∀ k,(∀ y0 y1 y2 y3 y4,LeO (impl_Machine_reached.l0 k y0 y1 y2 y3 y4) (impl_Machine_reached.l0 (k + 1) y0 y1 y2 y3 y4)) ∧ (∀ y0 y1 y2 y3 y4 y5 y6 y7,LeO (impl_Machine_reached.l1 k y0 y1 y2 y3 y4 y5 y6 y7) (impl_Machine_reached.l1 (k + 1) y0 y1 y2 y3 y4 y5 y6 y7))
 | 0 => ⟨fun _ _ _ _ _ r h => by simp [impl_Machine_reached.l0] at h,fun _ _ _ _ _ _ _ _ r h => by simp [impl_Machine_reached.l1] at h⟩
 | k + 1 => by
  obtain ⟨ih0,ih1⟩:=impl_Machine_reached.mono_l k
  refine ⟨?_,?_⟩
  ·
   intro y0 y1 y2 y3 y4
   unfold impl_Machine_reached.l0
   repeat' first
   | (with_reducible exact ih0 _ _ _ _ _)
   | (with_reducible exact ih1 _ _ _ _ _ _ _ _)
   | (with_reducible exact slices_Contains_int_int.mono _ _ _)
   | (with_reducible exact LeO.refl _)
   | (with_reducible exact LeO.none _)
   | (with_reducible refine LeO.ite ?_ ?_)
   | (with_reducible refine LeO.bind ?_ (fun _ => ?_))
   | exact ih0 _ _ _ _ _
   | exact ih1 _ _ _ _ _ _ _ _
   | exact slices_Contains_int_int.mono _ _ _
   | exact LeO.none _
   | refine LeO.ite ?_ ?_
   | refine LeO.bind ?_ (fun _ => ?_)
  ·
   intro y0 y1 y2 y3 y4 y5 y6 y7
   unfold impl_Machine_reached.l1
   repeat' first
   | (with_reducible exact ih0 _ _ _ _ _)
   | (with_reducible exact ih1 _ _ _ _ _ _ _ _)
   | (with_reducible exact slices_Contains_int_int.mono _ _ _)
   | (with_reducible exact LeO.refl _)
   | (with_reducible exact LeO.none _)
   | (with_reducible refine LeO.ite ?_ ?_)
   | (with_reducible refine LeO.bind ?_ (fun _ => ?_))
   | exact ih0 _ _ _ _ _
   | exact ih1 _ _ _ _ _ _ _ _
   | exact slices_Contains_int_int.mono _ _ _
   | exact LeO.none _
   | refine LeO.ite ?_ ?_
   | refine LeO.bind ?_ (fun _ => ?_)
theorem impl_Machine_reached.mono : ∀ a0 a1 a2 a3 k,LeO (impl_Machine_reached.f k a0 a1 a2 a3) (impl_Machine_reached.f (k + 1) a0 a1 a2 a3):=by
 intro a0 a1 a2 a3 k
 obtain ⟨ih0,ih1⟩:=impl_Machine_reached.mono_l k
 unfold impl_Machine_reached.f
 repeat' first
   | (with_reducible exact ih0 _ _ _ _ _)
   | (with_reducible exact ih1 _ _ _ _ _ _ _ _)
   | (with_reducible exact slices_Contains_int_int.mono _ _ _)
   | (with_reducible exact LeO.refl _)
   | (with_reducible exact LeO.none _)
   | (with_reducible refine LeO.ite ?_ ?_)
   | (with_reducible refine LeO.bind ?_ (fun _ => ?_))
   | exact ih0 _ _ _ _ _
   | exact ih1 _ _ _ _ _ _ _ _
   | exact slices_Contains_int_int.mono _ _ _
   | exact LeO.none _
   | refine LeO.ite ?_ ?_
   | refine LeO.bind ?_ (fun _ => ?_)
def impl_Machine_reached.T5 : Bool × List (List Nat × List Nat):=(true,[([],[]),([0],[0]),([],[]),([],[]),([2,3],[2,3]),([4],[4]),([1,5],[1,5]),([6],[6]),([],[]),([8],[8]),([],[]),([],[]),([10,11],[10,11]),([12],[12]),([9,13],[9,13]),([14],[14]),([7,15],[7,15]),([16],[16]),([],[])])
def impl_Machine_reached.B5 : List Nat:=[0,1,0,0,12,28,63,127,0,256,0,0,3072,7168,16128,32512,65535,131071,0]
theorem impl_Machine_reached.tab5 : rtab .any (opsOf Tryd.f49 5) = impl_Machine_reached.T5:=by kernel_rfl
theorem impl_Machine_reached.bits5 : waitsOk impl_Machine_reached.T5.2 impl_Machine_reached.B5 = true:=by kernel_rfl
set_option maxHeartbeats 8000000 in
set_option maxRecDepth 100000 in
theorem impl_Machine_reached.calls (k : Nat) (A0_0 : Option Addr) (c0_0 : Nat) (l0_0 : List Int) (A0_1 : Option Addr) (c0_1 : Nat) (l0_1 : List Int) (A0_2 : Option Addr) (c0_2 : Nat) (l0_2 : List Int) (a1 : Int) (r : List Int) (w : World) (hr0_0 : Kd.C (Kd.int .i64) w A0_0 l0_0.length l0_0) (hc0_0 : l0_0.length ≤ c0_0) (hr0_1 : Kd.C (Kd.int .i64) w A0_1 l0_1.length l0_1) (hc0_1 : l0_1.length ≤ c0_1) (hr0_2 : Kd.C (Kd.int .i64) w A0_2 l0_2.length l0_2) (hc0_2 : l0_2.length ≤ c0_2) (h : impl_Machine_reached.f k l0_0 l0_1 l0_2 a1 = some r) :
  Calls Tryd.prog 49 #[.agg #[.slice A0_0 l0_0.length c0_0,.slice A0_1 l0_1.length c0_1,.slice A0_2 l0_2.length c0_2],.int .i64 a1] w fun e w' => ∃ v0_ : Value,e = .returned (v0_) ∧ Kd.R (Kd.int .i64) 3 w' w.heap.size (fun _ => True) v0_ r ∧ Below w.heap.size w w':=by
 have hu25:=Tryd.underlying25
 have HR0_0:=Aside0.mk hr0_0
 have HC0_0:=Aside0.mk hc0_0;clear hr0_0 hc0_0
 have HR0_1:=Aside0.mk hr0_1
 have HC0_1:=Aside0.mk hc0_1;clear hr0_1 hc0_1
 have HR0_2:=Aside0.mk hr0_2
 have HC0_2:=Aside0.mk hc0_2;clear hr0_2 hc0_2;have HB:=Aside0.mk (Below.refl w.heap.size w)
 have H : (impl_Machine_reached.l0 k (([a1] : List Int)) 0 l0_0 l0_1 l0_2) = some r:=h;clear h
 obtain ⟨y383,hy383⟩ : ∃ y_ : List Int,y_ = (([a1] : List Int)):=⟨_,rfl⟩
 replace H : (impl_Machine_reached.l0 k y383 0 l0_0 l0_1 l0_2) = some r:=by first|(rw [hy383];with_reducible exact H)|(have H2_:=(Option.bind_some _ _).symm.trans H;rw [hy383];with_reducible exact H2_)|(have H2_:=(Option.bind_some _ _).symm.trans H;with_reducible exact H2_)|with_reducible exact H|(rw [hy383];exact H)|exact H
 have Ny383:=Aside0.mk hy383;clear hy383
 have H':=Aside0.mk H;clear H
 go_enter Tryd.func49,Tryd.ntmps49
 go_wp2_with (first|((with_reducible refine gate_dst (N:=2) rfl ?_);refine box_event ?hg (N:=2) ?hd (cs:=#[.slice A0_0 l0_0.length c0_0,.slice A0_1 l0_1.length c0_1,.slice A0_2 l0_2.length c0_2]) (t:=25) ?hr ?_;(case hd => rfl);(case hg => rfl);(case hr => first|(go_simp;done)|(go_simp;rfl));intro gb382 hg w3 hbox hb;have n0_:=Aside0.mk (below_step (belU HB.out) hb);have n1_:=Aside0.mk (hbox);have n2_:=Aside0.mk ((by rw [hg];exact (below_size (belU HB.out)) : w.heap.size ≤ gb382));have n3_:=Aside0.mk ((by rw [hg];exact (below_size (belU HB.out)) : w.heap.size ≤ gb382));clear HB;have HB:=n0_;have BK382:=n1_;have GW382:=n2_;have GE382:=n3_;clear n0_ n1_ n2_ n3_ hb hbox hg)|((with_reducible refine gate_dst (N:=10) rfl ?_);refine Kd.R_lit (Kd.int .i64) _ 3 ?hg (N:=10) ?hd (xs:=([a1] : List Int)) (inner:=[.int .i64 a1]) (ok:=fun _ => True) (okp:=fun _ => True) ?hr ?hp (fun _ hk => hk) trivial (Below.refl _ _) (Nat.le_refl _) (by simp) ?_;(case hd => rfl);(case hg => rfl);(case hr => first|(go_simp;done)|(go_simp;rfl));(case hp => exact (Reps.one (show Kd.M (Kd.int .i64) _ _ _ a1 [.int .i64 a1] from rfl) (Reps.none _ _)));intro v384 w4 ho5 hb hg_ hnew_;clear hg_ hnew_;(first|rw [← Ny383.out] at ho5|(simp only [Int.reduceToNat] at ho5;rw [← Ny383.out] at ho5));have n0_:=Aside0.mk (Kd.R_lower ho5 (below_size (by repeat (first|(with_reducible first|exact HB.out|apply below_alloc|apply pw_below_drewN|apply below_drew1|refine below_set ?_ GE382.out)|exact HB.out))));have n1_:=Aside0.mk (blk_below (g:=gb382) (o:=.cells #[.slice A0_0 l0_0.length c0_0,.slice A0_1 l0_1.length c0_1,.slice A0_2 l0_2.length c0_2] 25 (0,0)) (blkU BK382.out) hb);have n2_:=Aside0.mk (below_step (by repeat (first|(with_reducible first|exact HB.out|apply below_alloc|apply pw_below_drewN|apply below_drew1|refine below_set ?_ GE382.out)|exact HB.out)) hb);clear BK382 HB;have HO385:=n0_;have BK382:=n1_;have HB:=n2_;clear n0_ n1_ n2_ hb ho5))
 go_loopg [5,6] k (fun kq v5 v6 w' => ∃ (x5_1 : List Int) (x6_1 : Int),v6 = .int .i64 x6_1 ∧ Aside0 (impl_Machine_reached.l0 kq x5_1 x6_1 l0_0 l0_1 l0_2 = some r) ∧ Aside0 (kq ≤ k) ∧ Aside0 (Kd.R (Kd.int .i64) 3 w' w.heap.size (fun _ => True) v5 x5_1) ∧ Aside0 (w'.heap[gb382]? = some (.cells #[(.slice A0_0 l0_0.length c0_0),(.slice A0_1 l0_1.length c0_1),(.slice A0_2 l0_2.length c0_2)] 25 (0,0))) ∧ Aside0 (Below w.heap.size w w'))
 case atStart => exact ⟨(y383),(0),(by first|rfl|(simp;done)|(simp [*];done)),H',⟨Nat.le_refl _⟩,⟨rU HO385.out⟩,⟨blkU BK382.out⟩,⟨by repeat (first|(with_reducible first|exact HB.out|apply below_alloc|apply pw_below_drewN|apply below_drew1|refine below_set ?_ GE382.out)|exact HB.out)⟩⟩
 case round =>
  clear H'
  try clear p2
  try clear c4
  obtain ⟨x5_1,x6_1,rfl,HA,HK1,HO_5,BK382,HB⟩:=hrel
  cases gk with
  | zero => exact absurd HA.out (by simp [impl_Machine_reached.l0])
  | succ k1 =>
   have H:=HA.out;clear HA
   simp only [impl_Machine_reached.l0] at H
   by_cases c6 : x6_1 < (x5_1.length : Int)
   ·
    rw [if_pos c6] at H
    have c6b0 : decide (x6_1 < (x5_1.length : Int)) = true:=decide_eq_true c6;clear c6
    by_cases c7 : 0 ≤ x6_1
    ·
     rw [if_pos c7] at H
     have c7b0 : decide (0 ≤ x6_1) = true:=decide_eq_true c7;clear c7
     by_cases c8 : 0 ≤ (rd x5_1 x6_1)
     ·
      rw [if_pos c8] at H
      have c8b0 : decide (0 ≤ (rd x5_1 x6_1)) = true:=decide_eq_true c8;clear c8
      by_cases c9 : (rd x5_1 x6_1) < (l0_0.length : Int)
      ·
       rw [if_pos c9] at H
       have c9b0 : decide ((rd x5_1 x6_1) < (l0_0.length : Int)) = true:=decide_eq_true c9;clear c9
       by_cases c10 : (rd x5_1 x6_1) < (l0_1.length : Int)
       ·
        rw [if_pos c10] at H
        have c10b0 : decide ((rd x5_1 x6_1) < (l0_1.length : Int)) = true:=decide_eq_true c10;clear c10
        obtain ⟨y390,hy390⟩ : ∃ y_ : List Int,y_ = (([rd l0_0 (rd x5_1 x6_1),rd l0_1 (rd x5_1 x6_1)] : List Int)):=⟨_,rfl⟩
        replace H : (impl_Machine_reached.l1 k1 x5_1 x6_1 y390 (y390.length : Int) 0 l0_0 l0_1 l0_2) = some r:=by first|(rw [hy390];with_reducible exact H)|(have H2_:=(Option.bind_some _ _).symm.trans H;rw [hy390];with_reducible exact H2_)|(have H2_:=(Option.bind_some _ _).symm.trans H;with_reducible exact H2_)|with_reducible exact H|(rw [hy390];exact H)|exact H
        have Ny390:=Aside0.mk hy390;clear hy390
        have H':=Aside0.mk H;clear H
        obtain ⟨Ao11,co11,eo11⟩:=Kd.R_slice HO_5.out;subst eo11
        try go_wp2
        have n0_:=Aside0.mk (Kd.R_drew HO_5.out);have n1_:=Aside0.mk (blk_drew BK382.out);have n2_:=Aside0.mk (below_drew1 HB.out);clear HO_5 BK382 HB;have HO_5:=n0_;have BK382:=n1_;have HB:=n2_;clear n0_ n1_ n2_
        have p386 : 0 ≤ (x6_1 : Int):=of_decide_eq_true (by first|(with_reducible assumption)|assumption)
        have q386 : x6_1 < (x5_1.length : Int):=of_decide_eq_true (by first|(with_reducible assumption)|assumption)
        obtain ⟨ad386,e386,hx386_0⟩:=Kd.at_int (Kd.R_reads' HO_5.out).2.2 x6_1 p386 q386
        cases e386
        replace p386:=eq_true p386
        replace q386:=eq_true q386
        have p387 : 0 ≤ ((rd x5_1 x6_1) : Int):=of_decide_eq_true (by first|(with_reducible assumption)|assumption)
        have q387 : (rd x5_1 x6_1) < (l0_0.length : Int):=of_decide_eq_true (by first|(with_reducible assumption)|assumption)
        obtain ⟨ad387,e387,hx387_0⟩:=Kd.at_int HR0_0.out (rd x5_1 x6_1) p387 q387;have hw387_0:=hx387_0
        cases e387
        replace hx387_0:=(HB.out.cell (World.block_lt_of_cell? w _ hx387_0)).trans hx387_0
        replace p387:=eq_true p387
        replace q387:=eq_true q387
        have p388 : 0 ≤ (x6_1 : Int):=of_decide_eq_true (by first|(with_reducible assumption)|assumption)
        have q388 : x6_1 < (x5_1.length : Int):=of_decide_eq_true (by first|(with_reducible assumption)|assumption)
        obtain ⟨ad388,e388,hx388_0⟩:=Kd.at_int (Kd.R_reads' HO_5.out).2.2 x6_1 p388 q388
        obtain rfl : ad386 = ad388:=(by injection e388)
        replace p388:=eq_true p388
        replace q388:=eq_true q388
        have p389 : 0 ≤ ((rd x5_1 x6_1) : Int):=of_decide_eq_true (by first|(with_reducible assumption)|assumption)
        have q389 : (rd x5_1 x6_1) < (l0_1.length : Int):=of_decide_eq_true (by first|(with_reducible assumption)|assumption)
        obtain ⟨ad389,e389,hx389_0⟩:=Kd.at_int HR0_1.out (rd x5_1 x6_1) p389 q389;have hw389_0:=hx389_0
        cases e389
        replace hx389_0:=(HB.out.cell (World.block_lt_of_cell? w _ hx389_0)).trans hx389_0
        replace p389:=eq_true p389
        replace q389:=eq_true q389
        refine start_ (n:=19) (S:=fun w' => w'.cell? ⟨gb382,0,none⟩ = some (.slice (some ad387) l0_0.length c0_0) ∧ w'.cell? ⟨gb382,1,none⟩ = some (.slice (some ad389) l0_1.length c0_1) ∧ w'.cell? ⟨gb382,2,none⟩ = some (.slice A0_2 l0_2.length c0_2) ∧ w'.cell? (ad386.add (x6_1).toNat) = some (.int .i64 (rd x5_1 x6_1)) ∧ w'.cell? (ad387.add ((rd x5_1 x6_1)).toNat) = some (.int .i64 (rd l0_0 (rd x5_1 x6_1))) ∧ w'.cell? (ad386.add (x6_1).toNat) = some (.int .i64 (rd x5_1 x6_1)) ∧ w'.cell? (ad389.add ((rd x5_1 x6_1)).toNat) = some (.int .i64 (rd l0_1 (rd x5_1 x6_1)))) (ds:=[]) #[false,false,false,false,false,false,false,false,false,false,false,false,false,false,false,false,false,false,false] (by kernel_rfl) rfl rfl ⟨(blk_cell BK382.out 0).trans rfl,(blk_cell BK382.out 1).trans rfl,(blk_cell BK382.out 2).trans rfl,hx386_0,((HB.out.cell (World.block_lt_of_cell? w _ hw387_0)).trans hw387_0),hx388_0,((HB.out.cell (World.block_lt_of_cell? w _ hw389_0)).trans hw389_0)⟩ (fun hHeld => ?_);refine with_tabW impl_Machine_reached.tab5 impl_Machine_reached.bits5 (fun HT_ HW_ => ?_)
        generalize wr.drew = w12 at HO_5 BK382 HB hx386_0 hx387_0 hx388_0 hx389_0 hHeld ⊢
        refine pure_ (i:=0) (N:=some 17) (v:=?_) (a':=?_) #[true,false,false,false,false,false,false,false,false,false,false,false,false,false,false,false,false,false,false] rfl rfl (any_of HT_.out (by kernel_rfl)) (fun _ _ _ h => h) (Or.inl ⟨by rfl,?_⟩) ?_ ?_;rotate_left
        ·
         intro w'
         go_simp
         with_reducible rfl
        rotate_left
        ·
         simp only [Act.put,List.setIfInBounds_toArray,List.set_cons_zero,List.set_cons_succ,i64_w,i32_w]
         rfl
        refine pure_ (i:=2) (N:=some 19) (v:=?_) (a':=?_) #[true,false,true,false,false,false,false,false,false,false,false,false,false,false,false,false,false,false,false] rfl rfl (any_of HT_.out (by kernel_rfl)) (fun _ _ _ h => h) (Or.inl ⟨by rfl,?_⟩) ?_ ?_;rotate_left
        ·
         intro w'
         go_simp
         with_reducible rfl
        rotate_left
        ·
         simp only [Act.put,List.setIfInBounds_toArray,List.set_cons_zero,List.set_cons_succ,i64_w,i32_w]
         rfl
        refine pure_ (i:=3) (N:=some 20) (v:=?_) (a':=?_) #[true,false,true,true,false,false,false,false,false,false,false,false,false,false,false,false,false,false,false] rfl rfl (any_of HT_.out (by kernel_rfl)) (fun _ _ _ h => h) (Or.inl ⟨by rfl,?_⟩) ?_ ?_;rotate_left
        ·
         intro w'
         go_simp
         with_reducible rfl
        rotate_left
        ·
         simp only [Act.put,List.setIfInBounds_toArray,List.set_cons_zero,List.set_cons_succ,i64_w,i32_w]
         rfl
        refine pure_ (i:=4) (N:=some 21) (v:=?_) (a':=?_) #[true,false,true,true,true,false,false,false,false,false,false,false,false,false,false,false,false,false,false] rfl rfl (any_of HT_.out (by kernel_rfl)) (fun _ _ _ h => h) (Or.inl ⟨by rfl,?_⟩) ?_ ?_;rotate_left
        ·
         intro w'
         go_simp
         with_reducible rfl
        rotate_left
        ·
         simp only [Act.put,List.setIfInBounds_toArray,List.set_cons_zero,List.set_cons_succ,i64_w,i32_w]
         rfl
        refine pure_ (i:=8) (N:=some 25) (v:=?_) (a':=?_) #[true,false,true,true,true,false,false,false,true,false,false,false,false,false,false,false,false,false,false] rfl rfl (any_of HT_.out (by kernel_rfl)) (fun _ _ _ h => h) (Or.inl ⟨by rfl,?_⟩) ?_ ?_;rotate_left
        ·
         intro w'
         go_simp
         with_reducible rfl
        rotate_left
        ·
         simp only [Act.put,List.setIfInBounds_toArray,List.set_cons_zero,List.set_cons_succ,i64_w,i32_w]
         rfl
        refine pure_ (i:=10) (N:=some 27) (v:=?_) (a':=?_) #[true,false,true,true,true,false,false,false,true,false,true,false,false,false,false,false,false,false,false] rfl rfl (any_of HT_.out (by kernel_rfl)) (fun _ _ _ h => h) (Or.inl ⟨by rfl,?_⟩) ?_ ?_;rotate_left
        ·
         intro w'
         go_simp
         with_reducible rfl
        rotate_left
        ·
         simp only [Act.put,List.setIfInBounds_toArray,List.set_cons_zero,List.set_cons_succ,i64_w,i32_w]
         rfl
        refine pure_ (i:=11) (N:=some 28) (v:=?_) (a':=?_) #[true,false,true,true,true,false,false,false,true,false,true,true,false,false,false,false,false,false,false] rfl rfl (any_of HT_.out (by kernel_rfl)) (fun _ _ _ h => h) (Or.inl ⟨by rfl,?_⟩) ?_ ?_;rotate_left
        ·
         intro w'
         go_simp
         with_reducible rfl
        rotate_left
        ·
         simp only [Act.put,List.setIfInBounds_toArray,List.set_cons_zero,List.set_cons_succ,i64_w,i32_w]
         rfl
        refine pure_ (i:=12) (N:=some 29) (v:=?_) (a':=?_) #[true,false,true,true,true,false,false,false,true,false,true,true,true,false,false,false,false,false,false] rfl rfl (any_of HT_.out (by kernel_rfl)) (fun _ _ _ h => h) (Or.inl ⟨by rfl,?_⟩) ?_ ?_;rotate_left
        ·
         intro w'
         go_simp
         with_reducible rfl
        rotate_left
        ·
         simp only [Act.put,List.setIfInBounds_toArray,List.set_cons_zero,List.set_cons_succ,i64_w,i32_w]
         rfl
        refine pure_ (i:=18) (N:=some 35) (v:=?_) (a':=?_) #[true,false,true,true,true,false,false,false,true,false,true,true,true,false,false,false,false,false,true] rfl rfl (any_of HT_.out (by kernel_rfl)) (fun _ _ _ h => h) (Or.inl ⟨by rfl,?_⟩) ?_ ?_;rotate_left
        ·
         intro w'
         go_simp
         with_reducible rfl
        rotate_left
        ·
         simp only [Act.put,List.setIfInBounds_toArray,List.set_cons_zero,List.set_cons_succ,i64_w,i32_w]
         rfl
        refine take_ (i:=1) (N:=some 18) (v:=?_) (a':=?_) #[true,true,true,true,true,false,false,false,true,false,true,true,true,false,false,false,false,false,true] rfl rfl (take_ofW HT_.out HW_.out (by kernel_rfl)) (fun _ _ _ h => h) (Or.inl ⟨by rfl,?_⟩) hHeld ?_ ?_;rotate_left
        ·
         rintro w' ⟨s0,s1,s2,s3,s4,s5,s6⟩
         go_simp
         with_reducible rfl
        rotate_left
        ·
         simp only [Act.put,List.setIfInBounds_toArray,List.set_cons_zero,List.set_cons_succ,i64_w,i32_w]
         rfl
        refine take_ (i:=5) (N:=some 22) (v:=?_) (a':=?_) #[true,true,true,true,true,true,false,false,true,false,true,true,true,false,false,false,false,false,true] rfl rfl (take_ofW HT_.out HW_.out (by kernel_rfl)) (fun _ _ _ h => h) (Or.inl ⟨by rfl,?_⟩) hHeld ?_ ?_;rotate_left
        ·
         rintro w' ⟨s0,s1,s2,s3,s4,s5,s6⟩
         go_simp
         with_reducible rfl
        rotate_left
        ·
         simp only [Act.put,List.setIfInBounds_toArray,List.set_cons_zero,List.set_cons_succ,i64_w,i32_w]
         rfl
        refine pure_ (i:=6) (N:=some 23) (v:=?_) (a':=?_) #[true,true,true,true,true,true,true,false,true,false,true,true,true,false,false,false,false,false,true] rfl rfl (any_of HT_.out (by kernel_rfl)) (fun _ _ _ h => h) (Or.inl ⟨by rfl,?_⟩) ?_ ?_;rotate_left
        ·
         intro w'
         go_simp
         with_reducible rfl
        rotate_left
        ·
         simp only [Act.put,List.setIfInBounds_toArray,List.set_cons_zero,List.set_cons_succ,i64_w,i32_w]
         rfl
        refine take_ (i:=7) (N:=some 24) (v:=?_) (a':=?_) #[true,true,true,true,true,true,true,true,true,false,true,true,true,false,false,false,false,false,true] rfl rfl (take_ofW HT_.out HW_.out (by kernel_rfl)) (fun _ _ _ h => h) (Or.inl ⟨by rfl,?_⟩) hHeld ?_ ?_;rotate_left
        ·
         rintro w' ⟨s0,s1,s2,s3,s4,s5,s6⟩
         go_simp
         with_reducible rfl
        rotate_left
        ·
         simp only [Act.put,List.setIfInBounds_toArray,List.set_cons_zero,List.set_cons_succ,i64_w,i32_w]
         rfl
        refine take_ (i:=9) (N:=some 26) (v:=?_) (a':=?_) #[true,true,true,true,true,true,true,true,true,true,true,true,true,false,false,false,false,false,true] rfl rfl (take_ofW HT_.out HW_.out (by kernel_rfl)) (fun _ _ _ h => h) (Or.inl ⟨by rfl,?_⟩) hHeld ?_ ?_;rotate_left
        ·
         rintro w' ⟨s0,s1,s2,s3,s4,s5,s6⟩
         go_simp
         with_reducible rfl
        rotate_left
        ·
         simp only [Act.put,List.setIfInBounds_toArray,List.set_cons_zero,List.set_cons_succ,i64_w,i32_w]
         rfl
        refine take_ (i:=13) (N:=some 30) (v:=?_) (a':=?_) #[true,true,true,true,true,true,true,true,true,true,true,true,true,true,false,false,false,false,true] rfl rfl (take_ofW HT_.out HW_.out (by kernel_rfl)) (fun _ _ _ h => h) (Or.inl ⟨by rfl,?_⟩) hHeld ?_ ?_;rotate_left
        ·
         rintro w' ⟨s0,s1,s2,s3,s4,s5,s6⟩
         go_simp
         with_reducible rfl
        rotate_left
        ·
         simp only [Act.put,List.setIfInBounds_toArray,List.set_cons_zero,List.set_cons_succ,i64_w,i32_w]
         rfl
        refine pure_ (i:=14) (N:=some 31) (v:=?_) (a':=?_) #[true,true,true,true,true,true,true,true,true,true,true,true,true,true,true,false,false,false,true] rfl rfl (any_of HT_.out (by kernel_rfl)) (fun _ _ _ h => h) (Or.inl ⟨by rfl,?_⟩) ?_ ?_;rotate_left
        ·
         intro w'
         go_simp
         with_reducible rfl
        rotate_left
        ·
         simp only [Act.put,List.setIfInBounds_toArray,List.set_cons_zero,List.set_cons_succ,i64_w,i32_w]
         rfl
        refine take_ (i:=15) (N:=some 32) (v:=?_) (a':=?_) #[true,true,true,true,true,true,true,true,true,true,true,true,true,true,true,true,false,false,true] rfl rfl (take_ofW HT_.out HW_.out (by kernel_rfl)) (fun _ _ _ h => h) (Or.inl ⟨by rfl,?_⟩) hHeld ?_ ?_;rotate_left
        ·
         rintro w' ⟨s0,s1,s2,s3,s4,s5,s6⟩
         go_simp
         with_reducible rfl
        rotate_left
        ·
         simp only [Act.put,List.setIfInBounds_toArray,List.set_cons_zero,List.set_cons_succ,i64_w,i32_w]
         rfl
        refine one_ (i:=16) (N:=some 33) #[true,true,true,true,true,true,true,true,true,true,true,true,true,true,true,true,true,false,true] rfl rfl (one_of HT_.out (by kernel_rfl)) (by decide) (fun K hK => ?_)
        refine Kd.R_lit_step (Kd.int .i64) _ 3 ?hg (N:=33) ?hd (xs:=([rd l0_0 (rd x5_1 x6_1),rd l0_1 (rd x5_1 x6_1)] : List Int)) (inner:=[.int .i64 (rd l0_0 (rd x5_1 x6_1)),.int .i64 (rd l0_1 (rd x5_1 x6_1))]) (ok:=fun _ => True) (okp:=fun _ => True) ?hr ?hp (fun _ hk => hk) trivial (Below.refl _ _) (Nat.le_refl _) (by simp) ?_;(case hd => rfl);(case hg => rfl);(case hr => first|(go_simp;done)|(go_simp;rfl));(case hp => exact (Reps.one (show Kd.M (Kd.int .i64) _ _ _ (rd l0_0 (rd x5_1 x6_1)) [.int .i64 (rd l0_0 (rd x5_1 x6_1))] from rfl) (Reps.one (show Kd.M (Kd.int .i64) _ _ _ (rd l0_1 (rd x5_1 x6_1)) [.int .i64 (rd l0_1 (rd x5_1 x6_1))] from rfl) (Reps.none _ _))));intro v391 w13 ho14 hb hg_ hnew_
        have HS3_:=(hb.cell (World.block_lt_of_cell? _ _ (hHeld.2.2.2.1))).trans (hHeld.2.2.2.1)
        have HS5_:=(hb.cell (World.block_lt_of_cell? _ _ (hHeld.2.2.2.2.2.1))).trans (hHeld.2.2.2.2.2.1);clear hg_ hnew_
        (first|rw [← Ny390.out] at ho14|(simp only [Int.reduceToNat] at ho14;rw [← Ny390.out] at ho14));have n0_:=Aside0.mk (Kd.R_elder' (rU HO_5.out) (Kd.R_base ho14) hb);have n1_:=Aside0.mk (Kd.R_lower (Kd.R_new' ho14 (Kd.R_lt (rU HO_5.out))) (below_size (by repeat (first|(with_reducible first|exact HB.out|apply below_alloc|apply pw_below_drewN|apply below_drew1|refine below_set ?_ GE382.out)|exact HB.out))));have n2_:=Aside0.mk (blk_below (g:=gb382) (o:=.cells #[.slice (some ad387) l0_0.length c0_0,.slice (some ad389) l0_1.length c0_1,.slice A0_2 l0_2.length c0_2] 25 (0,0)) (blkU BK382.out) hb);have n3_:=Aside0.mk (below_step (by repeat (first|(with_reducible first|exact HB.out|apply below_alloc|apply pw_below_drewN|apply below_drew1|refine below_set ?_ GE382.out)|exact HB.out)) hb);clear HO_5 BK382 HB;have HO_5:=n0_;have HO392:=n1_;have BK382:=n2_;have HB:=n3_;clear n0_ n1_ n2_ n3_ hb ho14
        obtain ⟨Ao15,co15,eo15⟩:=Kd.R_slice HO392.out
        (first|subst eo15|(injection eo15 with f1_ f2_ f3_;have f4_:=f1_.symm;have f5_:=f3_.symm;clear f1_ f2_ f3_;subst f4_;subst f5_))
        refine hK.out _ _ ⟨(blk_cell BK382.out 0).trans rfl,(blk_cell BK382.out 1).trans rfl,(blk_cell BK382.out 2).trans rfl,HS3_,((HB.out.cell (World.block_lt_of_cell? w _ hw387_0)).trans hw387_0),HS5_,((HB.out.cell (World.block_lt_of_cell? w _ hw389_0)).trans hw389_0)⟩ (fun hHeld => ?_);clear hK K
        refine norm_ (a':=?_) ?_ ?_;rotate_left
        ·
         show Act.put _ (some 33) _ = _
         simp only [Act.put,List.setIfInBounds_toArray,List.set_cons_zero,List.set_cons_succ,i64_w,i32_w]
         rfl
        refine pure_ (i:=17) (N:=some 34) (v:=?_) (a':=?_) #[true,true,true,true,true,true,true,true,true,true,true,true,true,true,true,true,true,true,true] rfl rfl (any_of HT_.out (by kernel_rfl)) (fun _ _ _ h => h) (Or.inl ⟨by rfl,?_⟩) ?_ ?_;rotate_left
        ·
         intro w'
         go_simp
         with_reducible rfl
        rotate_left
        ·
         simp only [Act.put,List.setIfInBounds_toArray,List.set_cons_zero,List.set_cons_succ,i64_w,i32_w]
         rfl
        refine done_ (done_of HT_.out (by kernel_rfl)) ?_
        try go_wp2
        go_loopg [5,35] k1 (fun kq v5 v35 w' => ∃ (x5_2 : List Int) (x35_2 : Int),v35 = .int .i64 x35_2 ∧ Aside0 (impl_Machine_reached.l1 kq x5_2 x6_1 y390 (y390.length : Int) x35_2 l0_0 l0_1 l0_2 = some r) ∧ Aside0 (kq ≤ k1) ∧ Aside0 (Kd.R (Kd.int .i64) 3 w' w.heap.size (fun k_ => some k_ ≠ ((.slice Ao15 y390.length co15) : Value).ownBlock) v5 x5_2) ∧ Aside0 (Kd.R (Kd.int .i64) 3 w' w.heap.size (fun k_ => some k_ ≠ (v5 : Value).ownBlock) (.slice Ao15 y390.length co15) y390) ∧ Aside0 (w'.heap[gb382]? = some (.cells #[(.slice (some ad387) l0_0.length c0_0),(.slice (some ad389) l0_1.length c0_1),(.slice A0_2 l0_2.length c0_2)] 25 (0,0))) ∧ Aside0 (Below w.heap.size w w'))
        case atStart => exact ⟨(x5_1),(0),(by first|rfl|(simp;done)|(simp [*];done)),H',⟨Nat.le_refl _⟩,⟨by (with_reducible repeat (first|apply Kd.R_alloc|apply Kd.R_drewN|apply Kd.R_drew));exact Kd.R_mono HO_5.out (fun _ hk => hk.2)⟩,⟨by (with_reducible repeat (first|apply Kd.R_alloc|apply Kd.R_drewN|apply Kd.R_drew));exact Kd.R_mono HO392.out (fun _ hk => hk.2)⟩,⟨blkU BK382.out⟩,⟨by repeat (first|(with_reducible first|exact HB.out|apply below_alloc|apply pw_below_drewN|apply below_drew1|refine below_set ?_ GE382.out)|exact HB.out)⟩⟩
        case round =>
         clear H'
         try clear c1
         try clear p2
         try clear p3
         try clear q3
         try clear hx3
         try clear c4
         try clear c6
         try clear c6b0
         try clear c7
         try clear c7b0
         try clear c8
         try clear c8b0
         try clear c9
         try clear c9b0
         try clear c10
         try clear c10b0
         try clear hx386_0
         try clear hx387_0
         try clear hx388_0
         try clear hx389_0
         try clear p2
         try clear p386
         try clear p387
         try clear p388
         try clear p389
         try clear q386
         try clear q387
         try clear q388
         try clear q389
         obtain ⟨x5_2,x35_2,rfl,HA,HK2,HO_5,HO_33,BK382,HB⟩:=hrel
         cases gk with
         | zero => exact absurd HA.out (by simp [impl_Machine_reached.l1])
         | succ k2 =>
          have H:=HA.out;clear HA
          simp only [impl_Machine_reached.l1] at H
          by_cases c16 : x35_2 < (y390.length : Int)
          ·
           rw [if_pos c16] at H
           have c16b0 : decide (x35_2 < (y390.length : Int)) = true:=decide_eq_true c16;clear c16
           by_cases c17 : 0 ≤ x35_2
           ·
            rw [if_pos c17] at H
            have c17b0 : decide (0 ≤ x35_2) = true:=decide_eq_true c17;clear c17
            by_cases c18 : x35_2 < (y390.length : Int)
            ·
             rw [if_pos c18] at H
             have c18b0 : decide (x35_2 < (y390.length : Int)) = true:=decide_eq_true c18;clear c18
             replace H:=Option.bind_eq_some_iff.mp H
             obtain ⟨t394,A190,H⟩:=H
             replace H : (if t394 = true then (impl_Machine_reached.l1 k2 x5_2 x6_1 y390 (y390.length : Int) (wrap64 (x35_2 + 1)) l0_0 l0_1 l0_2) else (if x5_2.length < 17592186044416 then (impl_Machine_reached.l1 k2 (x5_2 ++ [rd y390 x35_2]) x6_1 y390 (y390.length : Int) (wrap64 (x35_2 + 1)) l0_0 l0_1 l0_2) else (none))) = some r:=H
             have A19:=Aside0.mk A190;clear A190
             by_cases c20 : t394 = true
             ·
              subst c20
              have H1 : (impl_Machine_reached.l1 k2 x5_2 x6_1 y390 (y390.length : Int) (wrap64 (x35_2 + 1)) l0_0 l0_1 l0_2) = some r:=by rw [if_pos rfl] at H;exact H
              clear H;have H:=H1;clear H1
              have H':=Aside0.mk H;clear H
              have p393 : 0 ≤ (x35_2 : Int):=of_decide_eq_true (by first|(with_reducible assumption)|assumption)
              have q393 : x35_2 < (y390.length : Int):=of_decide_eq_true (by first|(with_reducible assumption)|assumption)
              obtain ⟨ad393,e393,hx393_0⟩:=Kd.at_int (Kd.R_reads' HO_33.out).2.2 x35_2 p393 q393
              cases e393
              replace p393:=eq_true p393
              replace q393:=eq_true q393
              obtain ⟨Ao21,co21,eo21⟩:=Kd.R_slice HO_5.out;subst eo21
              go_wp2_with (first|((with_reducible refine gate_callee (f:=63) rfl ?_);refine goesL_ (some 41) rfl rfl Tryd.func63 (by kernel_rfl) rfl #[.slice Ao21 x5_2.length co21,.int .i64 (rd y390 x35_2)] rfl (by (try simp only [List.map_toArray,List.map_cons,List.map_nil]);first|done|rfl|(simp only [List.length_drop,List.length_take];rfl)) ?_;(with_reducible refine (slices_Contains_int_int.calls k2 _ _ x5_2 (rd y390 x35_2) true _ ?side1 ?side2 A19.out).mono ?_);(case side1 => exact cU (Kd.R_reads' HO_5.out).2.2);(case side2 => exact (Kd.R_reads' HO_5.out).2.1);rintro e w' ⟨rfl,⟨nd,rfl⟩⟩;refine ⟨_,rfl,?_⟩))
              go_roundg k2
              case measure => have:=HK1.out;have:=HK2.out;omega
              case rel => exact ⟨(x5_2),(wrap64 (x35_2 + 1)),(by first|rfl|(simp;done)|(simp [*];done)),H',⟨by have:=HK1.out;have:=HK2.out;omega⟩,⟨rU HO_5.out⟩,⟨rU HO_33.out⟩,⟨blkU BK382.out⟩,⟨by repeat (first|(with_reducible first|exact HB.out|apply below_alloc|apply pw_below_drewN|apply below_drew1|refine below_set ?_ GE382.out)|exact HB.out)⟩⟩
             ·
              replace c20:=Bool.eq_false_iff.mpr c20;subst c20
              have H1 : (if x5_2.length < 17592186044416 then (impl_Machine_reached.l1 k2 (x5_2 ++ [rd y390 x35_2]) x6_1 y390 (y390.length : Int) (wrap64 (x35_2 + 1)) l0_0 l0_1 l0_2) else (none)) = some r:=by rw [if_neg (show ¬ (false = true) by decide)] at H;exact H
              clear H;have H:=H1;clear H1
              by_cases c22 : x5_2.length < 17592186044416
              ·
               rw [if_pos c22] at H
               have LMc22:=Aside0.mk c22;clear c22
               obtain ⟨y395,hy395⟩ : ∃ y_ : List Int,y_ = (x5_2 ++ [rd y390 x35_2]):=⟨_,rfl⟩
               replace H : (impl_Machine_reached.l1 k2 y395 x6_1 y390 (y390.length : Int) (wrap64 (x35_2 + 1)) l0_0 l0_1 l0_2) = some r:=by first|(rw [hy395];with_reducible exact H)|(have H2_:=(Option.bind_some _ _).symm.trans H;rw [hy395];with_reducible exact H2_)|(have H2_:=(Option.bind_some _ _).symm.trans H;with_reducible exact H2_)|with_reducible exact H|(rw [hy395];exact H)|exact H
               have Ny395:=Aside0.mk hy395;clear hy395
               have H':=Aside0.mk H;clear H
               have p393 : 0 ≤ (x35_2 : Int):=of_decide_eq_true (by first|(with_reducible assumption)|assumption)
               have q393 : x35_2 < (y390.length : Int):=of_decide_eq_true (by first|(with_reducible assumption)|assumption)
               obtain ⟨ad393,e393,hx393_0⟩:=Kd.at_int (Kd.R_reads' HO_33.out).2.2 x35_2 p393 q393
               cases e393
               replace p393:=eq_true p393
               replace q393:=eq_true q393
               obtain ⟨Ao23,co23,eo23⟩:=Kd.R_slice HO_5.out;subst eo23
               go_wp2_with (first|((with_reducible refine gate_callee (f:=63) rfl ?_);refine goesL_ (some 41) rfl rfl Tryd.func63 (by kernel_rfl) rfl #[.slice Ao23 x5_2.length co23,.int .i64 (rd y390 x35_2)] rfl (by (try simp only [List.map_toArray,List.map_cons,List.map_nil]);first|done|rfl|(simp only [List.length_drop,List.length_take];rfl)) ?_;(with_reducible refine (slices_Contains_int_int.calls k2 _ _ x5_2 (rd y390 x35_2) false _ ?side1 ?side2 A19.out).mono ?_);(case side1 => exact cU (Kd.R_reads' HO_5.out).2.2);(case side2 => exact (Kd.R_reads' HO_5.out).2.1);rintro e w' ⟨rfl,⟨nd,rfl⟩⟩;refine ⟨_,rfl,?_⟩)|((with_reducible refine gate_builtin (b:=.append) (xs:=#[.tmp 43,.tmp 45]) rfl ?_);at_builtin;refine Kd.R_append (Kd.int .i64) (w0:=w) w.heap.size rfl (.tmp 43) (.tmp 45) 23 3 (.int .i64 0) 8 rfl Tryd.underlying23 info3 rfl (by decide) (by omega) (.slice Ao23 x5_2.length co23) x5_2 (rd y390 x35_2) [.int .i64 (rd y390 x35_2)] (fun k_ => some k_ ≠ (.slice (some ad393) y390.length co15 : Value).ownBlock) (fun _ => False) rfl rfl ?aP (fun _ hk => hk.elim) ?aF ?aO ?aB ?aS ?aL ?_;(case aP => exact rfl);(case aB => exact (by repeat (first|(with_reducible first|exact HB.out|apply below_alloc|apply pw_below_drewN|apply below_drew1|refine below_set ?_ GE382.out)|exact HB.out)));(case aF => exact (fun k_ hk => Kd.fresh' (Kd.R_lt (rU HO_33.out)) k_ hk));(case aO => exact (rU HO_5.out));(case aS => exact (below_size (by repeat (first|(with_reducible first|exact HB.out|apply below_alloc|apply pw_below_drewN|apply below_drew1|refine below_set ?_ GE382.out)|exact HB.out))));(case aL => have:=LMc22.out;omega);intro v396 w24 ho hb hg hat;rw [← Ny395.out] at ho;have n0_:=Aside0.mk (Kd.R_after (ok:=(fun _ => True)) (by (with_reducible repeat (first|apply Kd.R_alloc|apply Kd.R_drewN|apply Kd.R_drew));exact Kd.R_mono HO_33.out (fun _ hk => ⟨trivial,hk⟩)) hg hat);have n1_:=Aside0.mk (blk_grown (g:=gb382) (o:=.cells #[.slice (some ad387) l0_0.length c0_0,.slice (some ad389) l0_1.length c0_1,.slice A0_2 l0_2.length c0_2] 25 (0,0)) (blkU BK382.out) hg (Kd.R_ne HO_5.out BK382.out (by decide)));have n2_:=Aside0.mk (hb);have n3_:=Aside0.mk (ho);clear HO_33 BK382 HB HO_5;have HO_33:=n0_;have BK382:=n1_;have HB:=n2_;have HO397:=n3_;clear n0_ n1_ n2_ n3_ ho hb hg hat))
               go_roundg k2
               case measure => have:=HK1.out;have:=HK2.out;omega
               case rel => exact ⟨(y395),(wrap64 (x35_2 + 1)),(by first|rfl|(simp;done)|(simp [*];done)),H',⟨by have:=HK1.out;have:=HK2.out;omega⟩,⟨rU HO397.out⟩,⟨by (with_reducible repeat (first|apply Kd.R_alloc|apply Kd.R_drewN|apply Kd.R_drew));exact Kd.R_mono HO_33.out (fun _ hk => hk.2)⟩,⟨blkU BK382.out⟩,⟨by repeat (first|(with_reducible first|exact HB.out|apply below_alloc|apply pw_below_drewN|apply below_drew1|refine below_set ?_ GE382.out)|exact HB.out)⟩⟩
              ·
               rw [if_neg c22] at H
               exact absurd H (by simp)
            ·
             rw [if_neg c18] at H
             exact absurd H (by simp)
           ·
            rw [if_neg c17] at H
            exact absurd H (by simp)
          ·
           rw [if_neg c16] at H
           have c16b0 : decide (x35_2 < (y390.length : Int)) = false:=decide_eq_false c16;clear c16
           have H':=Aside0.mk H;clear H
           go_wp2
           go_roundg k2
           case measure => have:=HK1.out;have:=HK2.out;omega
           case rel => exact ⟨(x5_2),(wrap64 (x6_1 + 1)),(by first|rfl|(simp;done)|(simp [*];done)),H',⟨by have:=HK1.out;have:=HK2.out;omega⟩,⟨by (with_reducible repeat (first|apply Kd.R_alloc|apply Kd.R_drewN|apply Kd.R_drew));exact Kd.R_mono HO_5.out (fun _ hk => trivial)⟩,⟨blkU BK382.out⟩,⟨by repeat (first|(with_reducible first|exact HB.out|apply below_alloc|apply pw_below_drewN|apply below_drew1|refine below_set ?_ GE382.out)|exact HB.out)⟩⟩
       ·
        rw [if_neg c10] at H
        exact absurd H (by simp)
      ·
       rw [if_neg c9] at H
       exact absurd H (by simp)
     ·
      rw [if_neg c8] at H
      exact absurd H (by simp)
    ·
     rw [if_neg c7] at H
     exact absurd H (by simp)
   ·
    rw [if_neg c6] at H
    have c6b0 : decide (x6_1 < (x5_1.length : Int)) = false:=decide_eq_false c6;clear c6
    obtain rfl:=Option.some.inj H
    obtain ⟨Ao25,co25,eo25⟩:=Kd.R_slice HO_5.out;subst eo25
    go_wp2
    go_ret
    exact ⟨_,by first|rfl|(simp [errW_none,errW_some] <;> rfl)|(simp [*,errW_none,errW_some] <;> rfl),rU HO_5.out,by repeat (first|(with_reducible first|exact HB.out|apply below_alloc|apply pw_below_drewN|apply below_drew1|refine below_set ?_ GE382.out)|exact HB.out)⟩

end Go.Proofs.YthodcgkhianecaaDoor.PA
