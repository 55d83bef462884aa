/- The machine side of functions of this seat, written by the session's program myprint.py: for each Go function a Lean function and the proof that the call answers just it. -/
import Derived.Test.YtiplbleghaoehaaPAx0
import Derived.Test.YtiplbleghaoehaaUp
namespace Go.Proofs.Ytiplbleghaoehaa.PA
open Go.RowKit Go.Proofs.YtiplbleghaoehaaW.PrintWords Go.Proofs.YtiplbleghaoehaaW.PrintLast Go.Proofs.YtiplbleghaoehaaW.PrintMore
attribute [local go_sem] max2_int min2_int max_two min_two max_three min_three max_four min_four   -- for this text's walks alone
set_option linter.unusedVariables false
set_option linter.unusedSimpArgs false

/-! ### spec_l4Reached: function 62 -/
mutual
def spec_l4Reached.l0 : Nat → List Int → Int → List Int → List Int → List Int → Option (List Int)
 | 0,_,_,_,_,_ => none
 | k + 1,x3,x4,x496000,x496001,x496002 => if x4 < (x3.length : Int) then (spec_l4Reached.l1 k x3 x4 0 x496000 x496001 x496002) else (some x3)
def spec_l4Reached.l1 : Nat → List Int → Int → Int → List Int → List Int → List Int → Option (List Int)
 | 0,_,_,_,_,_,_ => none
 | k + 1,x3,x4,x5,x496000,x496001,x496002 => if x5 < (x3.length : Int) then (if 0 ≤ x5 then (if (rd x3 x5) = 1 then (if x5 < (x496000.length : Int) then (if 0 ≤ (rd x496000 x5) then (if (rd x496000 x5) < (x3.length : Int) then (if x5 < (x496001.length : Int) then (if 0 ≤ (rd x496001 x5) then (if (rd x496001 x5) < (x3.length : Int) then (spec_l4Reached.l1 k ((x3.set ((rd x496000 x5) : Int).toNat 1).set ((rd x496001 x5) : Int).toNat 1) x4 (wrap64 (x5 + 1)) x496000 x496001 x496002) else (none)) else (none)) else (none)) else (none)) else (none)) else (none)) else (spec_l4Reached.l1 k x3 x4 (wrap64 (x5 + 1)) x496000 x496001 x496002)) else (none)) else (spec_l4Reached.l0 k x3 (wrap64 (x4 + 1)) x496000 x496001 x496002)
end
def spec_l4Reached.f (k : Nat) (l0_0 : List Int) (l0_1 : List Int) (l0_2 : List Int) : Option (List Int):=if 0 ≤ (l0_0.length : Int) then (if ((l0_0.length : Int) : Int).toNat ≤ 35184372088832 then ((some (List.replicate ((l0_0.length : Int) : Int).toNat 0 : List Int)).bind fun y496 => (if 0 < (y496.length : Int) then (spec_l4Reached.l0 k (y496.set (0 : Int).toNat 1) 0 l0_0 l0_1 l0_2) else (none))) else (none)) else (none)
theorem spec_l4Reached.mono_l : ∀ k,(∀ y0 y1 y2 y3 y4,LeO (spec_l4Reached.l0 k y0 y1 y2 y3 y4) (spec_l4Reached.l0 (k + 1) y0 y1 y2 y3 y4)) ∧ (∀ y0 y1 y2 y3 y4 y5,LeO (spec_l4Reached.l1 k y0 y1 y2 y3 y4 y5) (spec_l4Reached.l1 (k + 1) y0 y1 y2 y3 y4 y5))
 | 0 => ⟨fun _ _ _ _ _ r h => by simp [spec_l4Reached.l0] at h,fun _ _ _ _ _ _ r h => by simp [spec_l4Reached.l1] at h⟩
 | k + 1 => by
  obtain ⟨ih0,ih1⟩:=spec_l4Reached.mono_l k
  refine ⟨?_,?_⟩
  ·
   intro y0 y1 y2 y3 y4
   unfold spec_l4Reached.l0
   repeat' first
   | (with_reducible exact ih0 _ _ _ _ _)
   | (with_reducible exact ih1 _ _ _ _ _ _)
   | (with_reducible exact LeO.refl _)
   | (with_reducible exact LeO.none _)
   | (with_reducible refine LeO.ite ?_ ?_)
   | (with_reducible refine LeO.bind ?_ (fun _ => ?_))
   | exact ih0 _ _ _ _ _
   | exact ih1 _ _ _ _ _ _
   | exact LeO.none _
   | refine LeO.ite ?_ ?_
   | refine LeO.bind ?_ (fun _ => ?_)
  ·
   intro y0 y1 y2 y3 y4 y5
   unfold spec_l4Reached.l1
   repeat' first
   | (with_reducible exact ih0 _ _ _ _ _)
   | (with_reducible exact ih1 _ _ _ _ _ _)
   | (with_reducible exact LeO.refl _)
   | (with_reducible exact LeO.none _)
   | (with_reducible refine LeO.ite ?_ ?_)
   | (with_reducible refine LeO.bind ?_ (fun _ => ?_))
   | exact ih0 _ _ _ _ _
   | exact ih1 _ _ _ _ _ _
   | exact LeO.none _
   | refine LeO.ite ?_ ?_
   | refine LeO.bind ?_ (fun _ => ?_)
theorem spec_l4Reached.mono : ∀ a0 a1 a2 k,LeO (spec_l4Reached.f k a0 a1 a2) (spec_l4Reached.f (k + 1) a0 a1 a2):=by
 intro a0 a1 a2 k
 obtain ⟨ih0,ih1⟩:=spec_l4Reached.mono_l k
 unfold spec_l4Reached.f
 repeat' first
   | (with_reducible exact ih0 _ _ _ _ _)
   | (with_reducible exact ih1 _ _ _ _ _ _)
   | (with_reducible exact LeO.refl _)
   | (with_reducible exact LeO.none _)
   | (with_reducible refine LeO.ite ?_ ?_)
   | (with_reducible refine LeO.bind ?_ (fun _ => ?_))
   | exact ih0 _ _ _ _ _
   | exact ih1 _ _ _ _ _ _
   | exact LeO.none _
   | refine LeO.ite ?_ ?_
   | refine LeO.bind ?_ (fun _ => ?_)
set_option maxHeartbeats 8000000 in
set_option maxRecDepth 100000 in
theorem spec_l4Reached.calls (k : Nat) (A0_0 : Option Addr) (c0_0 : Nat) (l0_0 : List Int) (A0_1 : Option Addr) (c0_1 : Nat) (l0_1 : List Int) (A0_2 : Option Addr) (c0_2 : Nat) (l0_2 : List Int) (r : List Int) (w : World) (hr0_0 : Kd.C (Kd.int .i64) w A0_0 l0_0.length l0_0) (hc0_0 : l0_0.length ≤ c0_0) (hr0_1 : Kd.C (Kd.int .i64) w A0_1 l0_1.length l0_1) (hc0_1 : l0_1.length ≤ c0_1) (hr0_2 : Kd.C (Kd.int .i64) w A0_2 l0_2.length l0_2) (hc0_2 : l0_2.length ≤ c0_2) (h : spec_l4Reached.f k l0_0 l0_1 l0_2 = some r) :
  Calls Try.prog 62 #[.agg #[.slice A0_0 l0_0.length c0_0,.slice A0_1 l0_1.length c0_1,.slice A0_2 l0_2.length c0_2]] w fun e w' => ∃ v0_ : Value,e = .returned (v0_) ∧ Kd.R (Kd.int .i64) 3 w' w.heap.size (fun _ => True) v0_ r ∧ Below w.heap.size w w':=by
 have hu26:=Try.underlying26
 have HR0_0:=Aside0.mk hr0_0
 have HC0_0:=Aside0.mk hc0_0;clear hr0_0 hc0_0
 have HR0_1:=Aside0.mk hr0_1
 have HC0_1:=Aside0.mk hc0_1;clear hr0_1 hc0_1
 have HR0_2:=Aside0.mk hr0_2
 have HC0_2:=Aside0.mk hc0_2;clear hr0_2 hc0_2;have HB:=Aside0.mk (Below.refl w.heap.size w)
 have H : (if 0 ≤ (l0_0.length : Int) then (if ((l0_0.length : Int) : Int).toNat ≤ 35184372088832 then ((some (List.replicate ((l0_0.length : Int) : Int).toNat 0 : List Int)).bind fun y496 => (if 0 < (y496.length : Int) then (spec_l4Reached.l0 k (y496.set (0 : Int).toNat 1) 0 l0_0 l0_1 l0_2) else (none))) else (none)) else (none)) = some r:=h;clear h
 by_cases c2 : 0 ≤ (l0_0.length : Int)
 ·
  rw [if_pos c2] at H
  have c2b0:=eq_true c2
  have c2b1 : decide (0 ≤ (l0_0.length : Int)) = true:=decide_eq_true c2;clear c2
  by_cases c3 : ((l0_0.length : Int) : Int).toNat ≤ 35184372088832
  ·
   rw [if_pos c3] at H
   have c3b0:=eq_true c3
   have c3b1 : decide (((l0_0.length : Int) : Int).toNat ≤ 35184372088832) = true:=decide_eq_true c3;clear c3
   obtain ⟨y496,hy496⟩ : ∃ y_ : List Int,y_ = (List.replicate ((l0_0.length : Int) : Int).toNat 0):=⟨_,rfl⟩
   replace H : (if 0 < (y496.length : Int) then (spec_l4Reached.l0 k (y496.set (0 : Int).toNat 1) 0 l0_0 l0_1 l0_2) else (none)) = some r:=by first|(rw [hy496];with_reducible exact H)|(have H2_:=(Option.bind_some _ _).symm.trans H;rw [hy496];with_reducible exact H2_)|(have H2_:=(Option.bind_some _ _).symm.trans H;with_reducible exact H2_)|with_reducible exact H|(rw [hy496];exact H)|exact H
   have Ny496:=Aside0.mk hy496;clear hy496
   by_cases c4 : 0 < (y496.length : Int)
   ·
    rw [if_pos c4] at H
    have c4b0 : decide (0 < (y496.length : Int)) = true:=decide_eq_true c4
    have c4b1 : decide (0 < y496.length) = true:=decide_eq_true (by omega);clear c4
    obtain ⟨y499,hy499⟩ : ∃ y_ : List Int,y_ = (y496.set (0 : Int).toNat 1):=⟨_,rfl⟩
    replace H : (spec_l4Reached.l0 k y499 0 l0_0 l0_1 l0_2) = some r:=by first|(rw [hy499];with_reducible exact H)|(have H2_:=(Option.bind_some _ _).symm.trans H;rw [hy499];with_reducible exact H2_)|(have H2_:=(Option.bind_some _ _).symm.trans H;with_reducible exact H2_)|with_reducible exact H|(rw [hy499];exact H)|exact H
    have Ny499:=Aside0.mk hy499;clear hy499
    have H':=Aside0.mk H;clear H
    go_enter Try.func62,Try.ntmps62
    go_wp2_with (first|((with_reducible refine gate_dst (N:=1) rfl ?_);refine box_event ?hg (N:=1) ?hd (cs:=#[.slice A0_0 l0_0.length c0_0,.slice A0_1 l0_1.length c0_1,.slice A0_2 l0_2.length c0_2]) (t:=26) ?hr ?_;(case hd => rfl);(case hg => rfl);(case hr => first|(go_simp;done)|(go_simp;rfl));intro gb495 hg w6 hbox hb;have n0_:=Aside0.mk (below_step (belU HB.out) hb);have n1_:=Aside0.mk (hbox);have n2_:=Aside0.mk ((by rw [hg];exact (below_size (belU HB.out)) : w.heap.size ≤ gb495));have n3_:=Aside0.mk ((by rw [hg];exact (below_size (belU HB.out)) : w.heap.size ≤ gb495));clear HB;have HB:=n0_;have BK495:=n1_;have GW495:=n2_;have GE495:=n3_;clear n0_ n1_ n2_ n3_ hb hbox hg;have hcz7_0 : w6.cell? ⟨gb495,0,none⟩ = some (.slice A0_0 l0_0.length c0_0):=(blk_cell BK495.out 0).trans rfl;have hcz7_1 : w6.cell? ⟨gb495,1,none⟩ = some (.slice A0_1 l0_1.length c0_1):=(blk_cell BK495.out 1).trans rfl;have hcz7_2 : w6.cell? ⟨gb495,2,none⟩ = some (.slice A0_2 l0_2.length c0_2):=(blk_cell BK495.out 2).trans rfl;have hfz7_0:=blk_frozen BK495.out 0;have hfz7_1:=blk_frozen BK495.out 1;have hfz7_2:=blk_frozen BK495.out 2)|((with_reducible refine gate_dst (N:=9) rfl ?_);refine Kd.R_make (Kd.int .i64) _ 3 rfl (N:=9) rfl 24 _ _ rfl (l0_0.length : Int) rfl rfl Try.underlying24 (.int .i64 0) 8 info3 rfl (by decide) (by omega) 0 (ok:=fun _ => True) (okp:=fun _ => True) rfl (fun _ hk => hk) trivial (of_decide_eq_true (by first|(with_reducible assumption)|assumption)) (Nat.le_trans (Nat.mul_le_mul_right _ (of_decide_eq_true (by first|(with_reducible assumption)|assumption) : (l0_0.length : Int).toNat ≤ 35184372088832)) (by omega)) (Below.refl _ _) (Nat.le_refl _) ?_;intro v497 w8 ho9 hb hg_ hnew_;clear hg_ hnew_;(first|rw [← Ny496.out] at ho9|(simp only [Int.reduceToNat] at ho9;rw [← Ny496.out] at ho9));have n0_:=Aside0.mk (Kd.R_lower ho9 (below_size (by repeat (first|(with_reducible first|exact HB.out|apply below_alloc|apply pw_below_drewN|apply below_drew1|refine below_set ?_ GE495.out)|exact HB.out))));have n1_:=Aside0.mk (blk_below (g:=gb495) (o:=.cells #[.slice A0_0 l0_0.length c0_0,.slice A0_1 l0_1.length c0_1,.slice A0_2 l0_2.length c0_2] 26 (0,0)) (blkU BK495.out) hb);have n2_:=Aside0.mk (below_step (by repeat (first|(with_reducible first|exact HB.out|apply below_alloc|apply pw_below_drewN|apply below_drew1|refine below_set ?_ GE495.out)|exact HB.out)) hb);clear BK495 HB;have HO498:=n0_;have BK495:=n1_;have HB:=n2_;clear n0_ n1_ n2_ hb ho9;have p5 : 0 ≤ (0 : Int):=(by omega);have q5 : (0 : Int) < ((y496.length : Int) : Int):=of_decide_eq_true (by first|(with_reducible assumption)|assumption);have qi5 : (0 < y496.length) = True:=eq_true (by omega);obtain ⟨go5,co5,eo5,gb5,gl5,cl5,HG5⟩:=Kd.R_form HO498.out (by omega);(first|cases eo5|(injection eo5 with ea_ en_ ec_;(first|subst ea_|(injection ea_ with ea_;subst ea_));subst ec_;clear en_));have GB5:=Aside0.mk gb5;have GG5:=Aside0.mk HG5;clear gb5 gl5 HG5;obtain ⟨hx5_0,hf5_0⟩:=Kd.R_celln 0 HO498.out (0 : Int) p5 q5;(try rw [show ((0 : Int)).toNat = 0 from rfl] at hx5_0);(try simp only [Nat.reduceMul,Nat.zero_mul,Nat.zero_add,Nat.reduceAdd] at hx5_0);(try rw [show ((0 : Int)).toNat = 0 from rfl] at hf5_0);(try simp only [Nat.reduceMul,Nat.zero_mul,Nat.zero_add,Nat.reduceAdd] at hf5_0);replace p5:=eq_true p5;replace q5:=eq_true q5;obtain ⟨hy10_,hz10_⟩:=Kd.R_celln 0 HO498.out (0 : Int) (by omega) (of_decide_eq_true (by first|(with_reducible assumption)|assumption));(try simp only [Int.reduceToNat,Int.toNat_zero,Int.toNat_ofNat,Nat.reduceMul,Nat.zero_mul,Nat.zero_add] at hy10_ hz10_);(try rw [show ((0 : Int)).toNat = 0 from rfl] at hy10_);(try rw [show ((0 : Int)).toNat = 0 from rfl] at hz10_);have HP10:=Kd.R_putg HO498.out (0 : Int) 1)|((with_reducible refine gate_store (t:=3) (p:=11) rfl ?_);refine store_event (t:=3) (p:=11) (v:=?vo_w11) (w1:=(w8.setCell ⟨go5,(0 : Int).toNat,none⟩ (.int .i64 1))) ?hg ?ho ?hn ?hr ?_;(case ho => rfl);(case hg => rfl);(case hn => rfl);(case hr => first|(go_simp;done)|(go_simp;rfl));intro w11 hw;have hg : w8.grownBy w11 (some go5):=(by rw [hw];exact HP10.2);have hp_ : Kd.R (Kd.int .i64) 3 w11 w.heap.size (fun _ => True) (.slice (some ⟨go5,0,none⟩) y496.length co5) y499:=(by rw [hw,Ny499.out];exact HP10.1);clear HP10;have n0_:=Aside0.mk (blk_grown (g:=gb495) (o:=.cells #[.slice A0_0 l0_0.length c0_0,.slice A0_1 l0_1.length c0_1,.slice A0_2 l0_2.length c0_2] 26 (0,0)) (blkU BK495.out) hg (Kd.R_ne HO498.out BK495.out (by decide)));have n1_:=Aside0.mk (hp_);have n2_:=Aside0.mk ((by rw [hw];exact below_set (HB.out) GB5.out : Below w.heap.size w w11));clear BK495 HO498 HB;have BK495:=n0_;have HO498:=n1_;have HB:=n2_;clear n0_ n1_ n2_ hg hw hp_))
    go_loopg [4] k (fun kq v4 w' => ∃ (x3_1 : List Int) (x4_1 : Int),v4 = .int .i64 x4_1 ∧ Aside0 (spec_l4Reached.l0 kq x3_1 x4_1 l0_0 l0_1 l0_2 = some r) ∧ Aside0 (kq ≤ k) ∧ Aside0 (Kd.R (Kd.int .i64) 3 w' w.heap.size (fun _ => True) (.slice (some ⟨go5,0,none⟩) y496.length co5) x3_1) ∧ Aside0 (w'.heap[gb495]? = some (.cells #[(.slice A0_0 l0_0.length c0_0),(.slice A0_1 l0_1.length c0_1),(.slice A0_2 l0_2.length c0_2)] 26 (0,0))) ∧ Aside0 (Below w.heap.size w w'))
    case atStart => exact ⟨(y499),(0),(by first|rfl|(simp;done)|(simp [*];done)),H',⟨Nat.le_refl _⟩,⟨rU HO498.out⟩,⟨blkU BK495.out⟩,⟨by repeat (first|(with_reducible first|exact HB.out|apply below_alloc|apply pw_below_drewN|apply below_drew1|refine below_set ?_ GE495.out)|exact HB.out)⟩⟩
    case round =>
     clear H'
     try clear c2
     try clear c2b0
     try clear c2b1
     try clear p2
     try clear c3
     try clear c3b0
     try clear c3b1
     try clear c4
     try clear c4b0
     try clear c4b1
     try clear p5
     try clear q5
     try clear hx5
     try clear qi5
     try clear hf5
     try clear c6
     try clear hcz7_0
     try clear hcz7_1
     try clear hcz7_2
     try clear hfz7_0
     try clear hfz7_1
     try clear hfz7_2
     try clear hx5_0
     try clear p5
     try clear q5
     obtain ⟨x3_1,x4_1,rfl,HA,HK1,HO_3,BK495,HB⟩:=hrel
     have hl3_1:=(Kd.R_reads' HO_3.out).1
     rw [hl3_1] at HO_3
     (try simp only [hl3_1])
     (try simp only [hl3_1] at BK495)
     cases gk with
     | zero => exact absurd HA.out (by simp [spec_l4Reached.l0])
     | succ k1 =>
      have H:=HA.out;clear HA
      simp only [spec_l4Reached.l0] at H
      by_cases c12 : x4_1 < (x3_1.length : Int)
      ·
       rw [if_pos c12] at H
       have c12b0 : decide (x4_1 < (x3_1.length : Int)) = true:=decide_eq_true c12;clear c12
       have H':=Aside0.mk H;clear H
       go_wp2
       go_loopg [5] k1 (fun kq v5 w' => ∃ (x3_2 : List Int) (x5_2 : Int),v5 = .int .i64 x5_2 ∧ Aside0 (spec_l4Reached.l1 kq x3_2 x4_1 x5_2 l0_0 l0_1 l0_2 = some r) ∧ Aside0 (kq ≤ k1) ∧ Aside0 (Kd.R (Kd.int .i64) 3 w' w.heap.size (fun _ => True) (.slice (some ⟨go5,0,none⟩) x3_1.length co5) x3_2) ∧ Aside0 (w'.heap[gb495]? = some (.cells #[(.slice A0_0 l0_0.length c0_0),(.slice A0_1 l0_1.length c0_1),(.slice A0_2 l0_2.length c0_2)] 26 (0,0))) ∧ Aside0 (Below w.heap.size w w'))
       case atStart => exact ⟨(x3_1),(0),(by first|rfl|(simp;done)|(simp [*];done)),H',⟨Nat.le_refl _⟩,⟨by (try simp only [hl3_1]);(with_reducible repeat (first|apply Kd.R_alloc|apply Kd.R_drewN|apply Kd.R_drew));exact HO_3.out⟩,⟨by (try simp only [hl3_1]);(with_reducible repeat (first|refine blk_drewN ?_ _|refine blk_drew ?_|refine blk_alloc ?_ _));exact BK495.out⟩,⟨by repeat (first|(with_reducible first|exact HB.out|apply below_alloc|apply pw_below_drewN|apply below_drew1|refine below_set ?_ GE495.out)|exact HB.out)⟩⟩
       case round =>
        clear H'
        try clear c1
        try clear c2
        try clear c2b0
        try clear c2b1
        try clear p2
        try clear c3
        try clear c3b0
        try clear c3b1
        try clear c4
        try clear c4b0
        try clear c4b1
        try clear p5
        try clear q5
        try clear hx5
        try clear qi5
        try clear hf5
        try clear c6
        try clear c12
        try clear c12b0
        try clear hcz7_0
        try clear hcz7_1
        try clear hcz7_2
        try clear hfz7_0
        try clear hfz7_1
        try clear hfz7_2
        try clear hx5_0
        try clear p2
        try clear p5
        try clear q5
        obtain ⟨x3_2,x5_2,rfl,HA,HK2,HO_3,BK495,HB⟩:=hrel
        have hl3_2:=(Kd.R_reads' HO_3.out).1
        rw [hl3_2] at HO_3
        (try simp only [hl3_2])
        (try simp only [hl3_2] at BK495)
        cases gk with
        | zero => exact absurd HA.out (by simp [spec_l4Reached.l1])
        | succ k2 =>
         have H:=HA.out;clear HA
         simp only [spec_l4Reached.l1] at H
         by_cases c13 : x5_2 < (x3_2.length : Int)
         ·
          rw [if_pos c13] at H
          have c13b0 : decide (x5_2 < (x3_2.length : Int)) = true:=decide_eq_true c13;clear c13
          by_cases c14 : 0 ≤ x5_2
          ·
           rw [if_pos c14] at H
           have c14b0 : decide (0 ≤ x5_2) = true:=decide_eq_true c14;clear c14
           by_cases c15 : (rd x3_2 x5_2) = 1
           ·
            rw [if_pos c15] at H
            have c15b0 : ((rd x3_2 x5_2) == 1) = true:=beq_iff_eq.mpr c15
            have c15b1 : ((rd x3_2 x5_2) != 1) = false:=bne_eq_false_iff_eq.mpr c15;clear c15
            by_cases c16 : x5_2 < (l0_0.length : Int)
            ·
             rw [if_pos c16] at H
             have c16b0 : decide (x5_2 < (l0_0.length : Int)) = true:=decide_eq_true c16;clear c16
             by_cases c17 : 0 ≤ (rd l0_0 x5_2)
             ·
              rw [if_pos c17] at H
              have c17b0 : decide (0 ≤ (rd l0_0 x5_2)) = true:=decide_eq_true c17;clear c17
              by_cases c18 : (rd l0_0 x5_2) < (x3_2.length : Int)
              ·
               rw [if_pos c18] at H
               have c18b0 : decide ((rd l0_0 x5_2) < (x3_2.length : Int)) = true:=decide_eq_true c18;clear c18
               obtain ⟨y502,hy502⟩ : ∃ y_ : List Int,y_ = (x3_2.set ((rd l0_0 x5_2) : Int).toNat 1):=⟨_,rfl⟩
               replace H : (if x5_2 < (l0_1.length : Int) then (if 0 ≤ (rd l0_1 x5_2) then (if (rd l0_1 x5_2) < (x3_2.length : Int) then (spec_l4Reached.l1 k2 (y502.set ((rd l0_1 x5_2) : Int).toNat 1) x4_1 (wrap64 (x5_2 + 1)) l0_0 l0_1 l0_2) else (none)) else (none)) else (none)) = some r:=by first|(rw [hy502];with_reducible exact H)|(have H2_:=(Option.bind_some _ _).symm.trans H;rw [hy502];with_reducible exact H2_)|(have H2_:=(Option.bind_some _ _).symm.trans H;with_reducible exact H2_)|with_reducible exact H|(rw [hy502];exact H)|exact H
               have Ny502:=Aside0.mk hy502;clear hy502
               by_cases c20 : x5_2 < (l0_1.length : Int)
               ·
                rw [if_pos c20] at H
                have c20b0 : decide (x5_2 < (l0_1.length : Int)) = true:=decide_eq_true c20;clear c20
                by_cases c21 : 0 ≤ (rd l0_1 x5_2)
                ·
                 rw [if_pos c21] at H
                 have c21b0 : decide (0 ≤ (rd l0_1 x5_2)) = true:=decide_eq_true c21;clear c21
                 by_cases c22 : (rd l0_1 x5_2) < (x3_2.length : Int)
                 ·
                  rw [if_pos c22] at H
                  have c22b0 : decide ((rd l0_1 x5_2) < (x3_2.length : Int)) = true:=decide_eq_true c22;clear c22
                  obtain ⟨y504,hy504⟩ : ∃ y_ : List Int,y_ = (y502.set ((rd l0_1 x5_2) : Int).toNat 1):=⟨_,rfl⟩
                  replace H : (spec_l4Reached.l1 k2 y504 x4_1 (wrap64 (x5_2 + 1)) l0_0 l0_1 l0_2) = some r:=by first|(rw [hy504];with_reducible exact H)|(have H2_:=(Option.bind_some _ _).symm.trans H;rw [hy504];with_reducible exact H2_)|(have H2_:=(Option.bind_some _ _).symm.trans H;with_reducible exact H2_)|with_reducible exact H|(rw [hy504];exact H)|exact H
                  have Ny504:=Aside0.mk hy504;clear hy504
                  have H':=Aside0.mk H;clear H
                  have p500 : 0 ≤ (x5_2 : Int):=of_decide_eq_true (by first|(with_reducible assumption)|assumption)
                  have q500 : x5_2 < (x3_2.length : Int):=of_decide_eq_true (by first|(with_reducible assumption)|assumption)
                  obtain ⟨ad500,e500,hx500_0⟩:=Kd.at_int (Kd.R_reads' HO_3.out).2.2 x5_2 p500 q500
                  obtain rfl : (⟨go5,0,none⟩ : Addr) = ad500:=(by injection e500)
                  (first|simp only [add_plain] at hx500_0|simp only [add_at] at hx500_0|simp only [Addr.add,Nat.zero_add] at hx500_0|skip)
                  replace p500:=eq_true p500
                  replace q500:=eq_true q500
                  have hcz24_0 : wr.cell? ⟨gb495,0,none⟩ = some (.slice A0_0 l0_0.length c0_0):=(blk_cell BK495.out 0).trans rfl
                  have hcz24_1 : wr.cell? ⟨gb495,1,none⟩ = some (.slice A0_1 l0_1.length c0_1):=(blk_cell BK495.out 1).trans rfl
                  have hcz24_2 : wr.cell? ⟨gb495,2,none⟩ = some (.slice A0_2 l0_2.length c0_2):=(blk_cell BK495.out 2).trans rfl
                  have hfz24_0:=blk_frozen BK495.out 0
                  have hfz24_1:=blk_frozen BK495.out 1
                  have hfz24_2:=blk_frozen BK495.out 2
                  have p501 : 0 ≤ (x5_2 : Int):=of_decide_eq_true (by first|(with_reducible assumption)|assumption)
                  have q501 : x5_2 < (l0_0.length : Int):=of_decide_eq_true (by first|(with_reducible assumption)|assumption)
                  obtain ⟨ad501,e501,hx501_0⟩:=Kd.at_int HR0_0.out x5_2 p501 q501
                  cases e501
                  replace hx501_0:=(HB.out.cell (World.block_lt_of_cell? w _ hx501_0)).trans hx501_0
                  replace p501:=eq_true p501
                  replace q501:=eq_true q501
                  have p19 : 0 ≤ ((rd l0_0 x5_2) : Int):=of_decide_eq_true (by first|(with_reducible assumption)|assumption)
                  have q19 : ((rd l0_0 x5_2) : Int) < ((x3_2.length : Int) : Int):=of_decide_eq_true (by first|(with_reducible assumption)|assumption)
                  obtain ⟨hx19_0,hf19_0⟩:=Kd.R_celln 0 HO_3.out ((rd l0_0 x5_2) : Int) p19 q19
                  replace p19:=eq_true p19
                  replace q19:=eq_true q19
                  have HP25:=Kd.R_putg HO_3.out ((rd l0_0 x5_2) : Int) 1
                  go_wp2_with (first|((with_reducible refine gate_store (t:=3) (p:=35) rfl ?_);refine store_event (t:=3) (p:=35) (v:=?vo_w26) (w1:=(wr.setCell ⟨go5,((rd l0_0 x5_2) : Int).toNat,none⟩ (.int .i64 1))) ?hg ?ho ?hn ?hr ?_;(case ho => rfl);(case hg => rfl);(case hn => rfl);(case hr => first|(go_simp;done)|(go_simp;rfl));intro w26 hw;have hg : wr.grownBy w26 (some go5):=(by rw [hw];exact HP25.2);have hp_ : Kd.R (Kd.int .i64) 3 w26 w.heap.size (fun _ => True) (.slice (some ⟨go5,0,none⟩) x3_2.length co5) y502:=(by rw [hw,Ny502.out];exact HP25.1);clear HP25;have n0_:=Aside0.mk (hp_);have n1_:=Aside0.mk (blk_grown (g:=gb495) (o:=.cells #[.slice (some ad501) l0_0.length c0_0,.slice A0_1 l0_1.length c0_1,.slice A0_2 l0_2.length c0_2] 26 (0,0)) (blkU BK495.out) hg (Kd.R_ne HO_3.out BK495.out (by decide)));have n2_:=Aside0.mk ((by rw [hw];exact below_set (HB.out) GB5.out : Below w.heap.size w w26));clear HO_3 BK495 HB;have HO_3:=n0_;have BK495:=n1_;have HB:=n2_;clear n0_ n1_ n2_ hg hw hp_;have hcz27_0 : w26.cell? ⟨gb495,0,none⟩ = some (.slice (some ad501) l0_0.length c0_0):=(blk_cell BK495.out 0).trans rfl;have hcz27_1 : w26.cell? ⟨gb495,1,none⟩ = some (.slice A0_1 l0_1.length c0_1):=(blk_cell BK495.out 1).trans rfl;have hcz27_2 : w26.cell? ⟨gb495,2,none⟩ = some (.slice A0_2 l0_2.length c0_2):=(blk_cell BK495.out 2).trans rfl;have hfz27_0:=blk_frozen BK495.out 0;have hfz27_1:=blk_frozen BK495.out 1;have hfz27_2:=blk_frozen BK495.out 2;have p503 : 0 ≤ (x5_2 : Int):=of_decide_eq_true (by first|(with_reducible assumption)|assumption);have q503 : x5_2 < (l0_1.length : Int):=of_decide_eq_true (by first|(with_reducible assumption)|assumption);obtain ⟨ad503,e503,hx503_0⟩:=Kd.at_int HR0_1.out x5_2 p503 q503;cases e503;replace hx503_0:=(HB.out.cell (World.block_lt_of_cell? w _ hx503_0)).trans hx503_0;replace p503:=eq_true p503;replace q503:=eq_true q503;have p23 : 0 ≤ ((rd l0_1 x5_2) : Int):=of_decide_eq_true (by first|(with_reducible assumption)|assumption);have q23 : ((rd l0_1 x5_2) : Int) < ((x3_2.length : Int) : Int):=of_decide_eq_true (by first|(with_reducible assumption)|assumption);obtain ⟨hx23_0,hf23_0⟩:=Kd.R_celln 0 HO_3.out ((rd l0_1 x5_2) : Int) p23 q23;replace p23:=eq_true p23;replace q23:=eq_true q23;obtain ⟨hy28_,hz28_⟩:=Kd.R_celln 0 HO_3.out ((rd l0_1 x5_2) : Int) (of_decide_eq_true (by first|(with_reducible assumption)|assumption)) (of_decide_eq_true (by first|(with_reducible assumption)|assumption));have HP28:=Kd.R_putg HO_3.out ((rd l0_1 x5_2) : Int) 1)|((with_reducible refine gate_store (t:=3) (p:=42) rfl ?_);refine store_event (t:=3) (p:=42) (v:=?vo_w29) (w1:=(w26.setCell ⟨go5,((rd l0_1 x5_2) : Int).toNat,none⟩ (.int .i64 1))) ?hg ?ho ?hn ?hr ?_;(case ho => rfl);(case hg => rfl);(case hn => rfl);(case hr => first|(go_simp;done)|(go_simp;rfl));intro w29 hw;have hg : w26.grownBy w29 (some go5):=(by rw [hw];exact HP28.2);have hp_ : Kd.R (Kd.int .i64) 3 w29 w.heap.size (fun _ => True) (.slice (some ⟨go5,0,none⟩) x3_2.length co5) y504:=(by rw [hw,Ny504.out];exact HP28.1);clear HP28;have n0_:=Aside0.mk (hp_);have n1_:=Aside0.mk (blk_grown (g:=gb495) (o:=.cells #[.slice (some ad501) l0_0.length c0_0,.slice (some ad503) l0_1.length c0_1,.slice A0_2 l0_2.length c0_2] 26 (0,0)) (blkU BK495.out) hg (Kd.R_ne HO_3.out BK495.out (by decide)));have n2_:=Aside0.mk ((by rw [hw];exact below_set (HB.out) GB5.out : Below w.heap.size w w29));clear HO_3 BK495 HB;have HO_3:=n0_;have BK495:=n1_;have HB:=n2_;clear n0_ n1_ n2_ hg hw hp_))
                  (try simp only [← hl3_2])
                  go_roundg k2
                  case measure => have:=HK1.out;have:=HK2.out;omega
                  case rel => exact ⟨(y504),(wrap64 (x5_2 + 1)),(by first|rfl|(simp;done)|(simp [*];done)),H',⟨by have:=HK1.out;have:=HK2.out;omega⟩,⟨by (try simp only [hl3_1]);(try simp only [hl3_2]);(with_reducible repeat (first|apply Kd.R_alloc|apply Kd.R_drewN|apply Kd.R_drew));exact HO_3.out⟩,⟨by (try simp only [hl3_1]);(try simp only [hl3_2]);(with_reducible repeat (first|refine blk_drewN ?_ _|refine blk_drew ?_|refine blk_alloc ?_ _));exact BK495.out⟩,⟨by repeat (first|(with_reducible first|exact HB.out|apply below_alloc|apply pw_below_drewN|apply below_drew1|refine below_set ?_ GE495.out)|exact HB.out)⟩⟩
                 ·
                  rw [if_neg c22] at H
                  exact absurd H (by simp)
                ·
                 rw [if_neg c21] at H
                 exact absurd H (by simp)
               ·
                rw [if_neg c20] at H
                exact absurd H (by simp)
              ·
               rw [if_neg c18] at H
               exact absurd H (by simp)
             ·
              rw [if_neg c17] at H
              exact absurd H (by simp)
            ·
             rw [if_neg c16] at H
             exact absurd H (by simp)
           ·
            rw [if_neg c15] at H
            have c15b0 : ((rd x3_2 x5_2) == 1) = false:=beq_eq_false_iff_ne.mpr c15
            have c15b1 : ((rd x3_2 x5_2) != 1) = true:=bne_iff_ne.mpr c15
            have H':=Aside0.mk H;clear H
            have p500 : 0 ≤ (x5_2 : Int):=of_decide_eq_true (by first|(with_reducible assumption)|assumption)
            have q500 : x5_2 < (x3_2.length : Int):=of_decide_eq_true (by first|(with_reducible assumption)|assumption)
            obtain ⟨ad500,e500,hx500_0⟩:=Kd.at_int (Kd.R_reads' HO_3.out).2.2 x5_2 p500 q500
            obtain rfl : (⟨go5,0,none⟩ : Addr) = ad500:=(by injection e500)
            (first|simp only [add_plain] at hx500_0|simp only [add_at] at hx500_0|simp only [Addr.add,Nat.zero_add] at hx500_0|skip)
            replace p500:=eq_true p500
            replace q500:=eq_true q500
            go_wp2
            (try simp only [← hl3_2])
            go_roundg k2
            case measure => have:=HK1.out;have:=HK2.out;omega
            case rel => exact ⟨(x3_2),(wrap64 (x5_2 + 1)),(by first|rfl|(simp;done)|(simp [*];done)),H',⟨by have:=HK1.out;have:=HK2.out;omega⟩,⟨by (try simp only [hl3_1]);(try simp only [hl3_2]);(with_reducible repeat (first|apply Kd.R_alloc|apply Kd.R_drewN|apply Kd.R_drew));exact HO_3.out⟩,⟨by (try simp only [hl3_1]);(try simp only [hl3_2]);(with_reducible repeat (first|refine blk_drewN ?_ _|refine blk_drew ?_|refine blk_alloc ?_ _));exact BK495.out⟩,⟨by repeat (first|(with_reducible first|exact HB.out|apply below_alloc|apply pw_below_drewN|apply below_drew1|refine below_set ?_ GE495.out)|exact HB.out)⟩⟩
          ·
           rw [if_neg c14] at H
           exact absurd H (by simp)
         ·
          rw [if_neg c13] at H
          have c13b0 : decide (x5_2 < (x3_2.length : Int)) = false:=decide_eq_false c13;clear c13
          have H':=Aside0.mk H;clear H
          go_wp2
          (try simp only [← hl3_1,← hl3_2])
          go_roundg k2
          case measure => have:=HK1.out;have:=HK2.out;omega
          case rel => exact ⟨(x3_2),(wrap64 (x4_1 + 1)),(by first|rfl|(simp;done)|(simp [*];done)),H',⟨by have:=HK1.out;have:=HK2.out;omega⟩,⟨by (try simp only [hl3_1]);(try simp only [hl3_2]);(with_reducible repeat (first|apply Kd.R_alloc|apply Kd.R_drewN|apply Kd.R_drew));exact HO_3.out⟩,⟨by (try simp only [hl3_1]);(try simp only [hl3_2]);(with_reducible repeat (first|refine blk_drewN ?_ _|refine blk_drew ?_|refine blk_alloc ?_ _));exact BK495.out⟩,⟨by repeat (first|(with_reducible first|exact HB.out|apply below_alloc|apply pw_below_drewN|apply below_drew1|refine below_set ?_ GE495.out)|exact HB.out)⟩⟩
      ·
       rw [if_neg c12] at H
       have c12b0 : decide (x4_1 < (x3_1.length : Int)) = false:=decide_eq_false c12;clear c12
       obtain rfl:=Option.some.inj H
       go_wp2
       go_ret
       exact ⟨_,by first|rfl|(simp [errW_none,errW_some] <;> rfl)|(simp [*,errW_none,errW_some] <;> rfl),rU HO_3.out,by repeat (first|(with_reducible first|exact HB.out|apply below_alloc|apply pw_below_drewN|apply below_drew1|refine below_set ?_ GE495.out)|exact HB.out)⟩
   ·
    rw [if_neg c4] at H
    exact absurd H (by simp)
  ·
   rw [if_neg c3] at H
   exact absurd H (by simp)
 ·
  rw [if_neg c2] at H
  exact absurd H (by simp)

end Go.Proofs.Ytiplbleghaoehaa.PA
