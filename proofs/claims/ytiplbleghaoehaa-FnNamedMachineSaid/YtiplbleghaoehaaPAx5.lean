/- The machine side of functions of this seat, written by the session's program myprint.py: for each Go function a Lean function and the proof that the call answers just it. -/
import Derived.Test.YtiplbleghaoehaaPAx0
import Derived.Test.YtiplbleghaoehaaUp
namespace Go.Proofs.Ytiplbleghaoehaa.PA
open Go.RowKit Go.Proofs.YtiplbleghaoehaaW.PrintWords Go.Proofs.YtiplbleghaoehaaW.PrintLast Go.Proofs.YtiplbleghaoehaaW.PrintMore
attribute [local go_sem] max2_int min2_int max_two min_two max_three min_three max_four min_four   -- for this text's walks alone
set_option linter.unusedVariables false
set_option linter.unusedSimpArgs false

/-! ### impl_counting: function 20 -/
def impl_counting.l0 : Nat → Int → Int → Int → Int → List Int → List Int → List Int → Option (List Int × List Int × List Int)
 | 0,_,_,_,_,_,_,_ => none
 | k + 1,x0,x1,x10,x11,x145000,x145001,x145002 => if x11 < x10 then (if x145000.length < 17592186044416 then (if x145001.length < 17592186044416 then (impl_counting.l0 k x0 x1 x10 (wrap64 (x11 + 1)) (x145000 ++ [x11]) (x145001 ++ [mn (wrap64 (x11 + 1)) (wrap64 (x1 - 1))]) x145002) else (none)) else (none)) else (if 0 ≤ x0 then (if x0 < (x145002.length : Int) then (some (x145000,x145001,(x145002.set (x0 : Int).toNat 1))) else (none)) else (none))
def impl_counting.f (k : Nat) (a0 : Int) (a1 : Int) : Option (List Int × List Int × List Int):=if 0 ≤ a1 then (if (a1 : Int).toNat ≤ 35184372088832 then (impl_counting.l0 k a0 a1 a1 0 ([] : List Int) ([] : List Int) (List.replicate (a1 : Int).toNat 0)) else (none)) else (none)
theorem impl_counting.mono_l : ∀ k,(∀ y0 y1 y2 y3 y4 y5 y6,LeO (impl_counting.l0 k y0 y1 y2 y3 y4 y5 y6) (impl_counting.l0 (k + 1) y0 y1 y2 y3 y4 y5 y6))
 | 0 => fun _ _ _ _ _ _ _ r h => by simp [impl_counting.l0] at h
 | k + 1 => by
  have ih0:=impl_counting.mono_l k
  ·
   intro y0 y1 y2 y3 y4 y5 y6
   unfold impl_counting.l0
   repeat' first
   | (with_reducible exact ih0 _ _ _ _ _ _ _)
   | (with_reducible exact LeO.refl _)
   | (with_reducible exact LeO.none _)
   | (with_reducible refine LeO.ite ?_ ?_)
   | (with_reducible refine LeO.bind ?_ (fun _ => ?_))
   | exact ih0 _ _ _ _ _ _ _
   | exact LeO.none _
   | refine LeO.ite ?_ ?_
   | refine LeO.bind ?_ (fun _ => ?_)
theorem impl_counting.mono : ∀ a0 a1 k,LeO (impl_counting.f k a0 a1) (impl_counting.f (k + 1) a0 a1):=by
 intro a0 a1 k
 have ih0:=impl_counting.mono_l k
 unfold impl_counting.f
 repeat' first
   | (with_reducible exact ih0 _ _ _ _ _ _ _)
   | (with_reducible exact LeO.refl _)
   | (with_reducible exact LeO.none _)
   | (with_reducible refine LeO.ite ?_ ?_)
   | (with_reducible refine LeO.bind ?_ (fun _ => ?_))
   | exact ih0 _ _ _ _ _ _ _
   | exact LeO.none _
   | refine LeO.ite ?_ ?_
   | refine LeO.bind ?_ (fun _ => ?_)
set_option maxHeartbeats 8000000 in
set_option maxRecDepth 100000 in
theorem impl_counting.calls (k : Nat) (a0 : Int) (a1 : Int) (r1 : List Int) (r2 : List Int) (r3 : List Int) (w : World) (h : impl_counting.f k a0 a1 = some (r1,r2,r3)) :
  Calls Try.prog 20 #[.int .i64 a0,.int .i64 a1] w fun e w' => ∃ v0_ v1_ v2_ : Value,e = .returned (.agg #[v0_,v1_,v2_]) ∧ Kd.R (Kd.int .i64) 3 w' w.heap.size (fun k_ => some k_ ≠ (v1_ : Value).ownBlock ∧ some k_ ≠ (v2_ : Value).ownBlock) v0_ r1 ∧ Kd.R (Kd.int .i64) 3 w' w.heap.size (fun k_ => some k_ ≠ (v0_ : Value).ownBlock ∧ some k_ ≠ (v2_ : Value).ownBlock) v1_ r2 ∧ Kd.R (Kd.int .i64) 3 w' w.heap.size (fun k_ => some k_ ≠ (v0_ : Value).ownBlock ∧ some k_ ≠ (v1_ : Value).ownBlock) v2_ r3 ∧ Below w.heap.size w w':=by
 have hu26:=Try.underlying26;have HB:=Aside0.mk (Below.refl w.heap.size w)
 have H : (if 0 ≤ a1 then (if (a1 : Int).toNat ≤ 35184372088832 then (impl_counting.l0 k a0 a1 a1 0 ([] : List Int) ([] : List Int) (List.replicate (a1 : Int).toNat 0)) else (none)) else (none)) = some (r1,r2,r3):=h;clear h
 by_cases c3 : 0 ≤ a1
 ·
  rw [if_pos c3] at H
  have c3b0:=eq_true c3
  have c3b1 : decide (0 ≤ a1) = true:=decide_eq_true c3;clear c3
  by_cases c4 : (a1 : Int).toNat ≤ 35184372088832
  ·
   rw [if_pos c4] at H
   have c4b0:=eq_true c4
   have c4b1 : decide ((a1 : Int).toNat ≤ 35184372088832) = true:=decide_eq_true c4;clear c4
   obtain ⟨y141,hy141⟩ : ∃ y_ : List Int,y_ = (List.replicate (a1 : Int).toNat 0):=⟨_,rfl⟩
   replace H : (impl_counting.l0 k a0 a1 a1 0 ([] : List Int) ([] : List Int) y141) = some (r1,r2,r3):=by first|(rw [hy141];with_reducible exact H)|(have H2_:=(Option.bind_some _ _).symm.trans H;rw [hy141];with_reducible exact H2_)|(have H2_:=(Option.bind_some _ _).symm.trans H;with_reducible exact H2_)|with_reducible exact H|(rw [hy141];exact H)|exact H
   have Ny141:=Aside0.mk hy141;clear hy141
   have H':=Aside0.mk H;clear H
   go_enter Try.func20,Try.ntmps20
   go_wp2_with (first|((with_reducible refine gate_dst (N:=4) rfl ?_);refine box_event ?hg (N:=4) ?hd (cs:=#[.slice none 0 0,.slice none 0 0,.slice none 0 0]) (t:=26) ?hr ?_;(case hd => rfl);(case hg => rfl);(case hr => first|(go_simp;done)|(go_simp;rfl));intro gb140 hg w5 hbox hb;have n0_:=Aside0.mk (below_step (belU HB.out) hb);have n1_:=Aside0.mk (hbox);have n2_:=Aside0.mk ((by rw [hg];exact (below_size (belU HB.out)) : w.heap.size ≤ gb140));have n3_:=Aside0.mk ((by rw [hg];exact (below_size (belU HB.out)) : w.heap.size ≤ gb140));clear HB;have HB:=n0_;have BK140:=n1_;have GW140:=n2_;have GE140:=n3_;clear n0_ n1_ n2_ n3_ hb hbox hg)|((with_reducible refine gate_dst (N:=8) rfl ?_);refine Kd.R_make (Kd.int .i64) _ 3 rfl (N:=8) rfl 24 _ _ rfl a1 rfl rfl Try.underlying24 (.int .i64 0) 8 info3 rfl (by decide) (by omega) 0 (ok:=fun _ => True) (okp:=fun _ => True) rfl (fun _ hk => hk) trivial (of_decide_eq_true (by first|(with_reducible assumption)|assumption)) (Nat.le_trans (Nat.mul_le_mul_right _ (of_decide_eq_true (by first|(with_reducible assumption)|assumption) : a1.toNat ≤ 35184372088832)) (by omega)) (Below.refl _ _) (Nat.le_refl _) ?_;intro v142 w6 ho7 hb hg_ hnew_;clear hg_ hnew_;(first|rw [← Ny141.out] at ho7|(simp only [Int.reduceToNat] at ho7;rw [← Ny141.out] at ho7));have n0_:=Aside0.mk (Kd.R_lower ho7 (below_size (by repeat (first|(with_reducible first|exact HB.out|apply below_alloc|apply pw_below_drewN|apply below_drew1|refine below_set ?_ GE140.out)|exact HB.out))));have n1_:=Aside0.mk (blk_below (g:=gb140) (o:=.cells #[.slice none 0 0,.slice none 0 0,.slice none 0 0] 26 (0,0)) (blkU BK140.out) hb);have n2_:=Aside0.mk (below_step (by repeat (first|(with_reducible first|exact HB.out|apply below_alloc|apply pw_below_drewN|apply below_drew1|refine below_set ?_ GE140.out)|exact HB.out)) hb);clear BK140 HB;have HO143:=n0_;have BK140:=n1_;have HB:=n2_;clear n0_ n1_ n2_ hb ho7;obtain ⟨Ao8,co8,eo8⟩:=Kd.R_slice HO143.out;subst eo8)|((with_reducible refine gate_dst (N:=5) rfl ?_);refine box_event ?hg (N:=5) ?hd (cs:=#[.slice none 0 0,.slice none 0 0,.slice none 0 0]) (t:=26) ?hr ?_;(case hd => rfl);(case hg => rfl);(case hr => first|(go_simp;done)|(go_simp;rfl));intro gb144 hg w9 hbox hb;have n0_:=Aside0.mk (Kd.R_below (rU HO143.out) hb);have n1_:=Aside0.mk (blk_below (g:=gb140) (o:=.cells #[.slice none 0 0,.slice none 0 0,.slice none 0 0] 26 (0,0)) (blkU BK140.out) hb);have n2_:=Aside0.mk (below_step (by repeat (first|(with_reducible first|exact HB.out|apply below_alloc|apply pw_below_drewN|apply below_drew1|refine below_set ?_ GE140.out)|exact HB.out)) hb);have n3_:=Aside0.mk (hbox);have n4_:=Aside0.mk ((by rw [hg];exact (below_size (by repeat (first|(with_reducible first|exact HB.out|apply below_alloc|apply pw_below_drewN|apply below_drew1|refine below_set ?_ GE140.out)|exact HB.out))) : w.heap.size ≤ gb144));have n5_:=Aside0.mk ((by rw [hg];exact (below_size (by repeat (first|(with_reducible first|exact HB.out|apply below_alloc|apply pw_below_drewN|apply below_drew1|refine below_set ?_ GE140.out)|exact HB.out))) : w.heap.size ≤ gb144));have n6_:=Aside0.mk ((by rw [hg];exact Nat.ne_of_lt (blk_lt (g:=gb140) (o:=.cells #[.slice none 0 0,.slice none 0 0,.slice none 0 0] 26 (0,0)) (blkU BK140.out)) : gb140 ≠ gb144));have n7_:=Aside0.mk ((by rw [hg];exact Nat.ne_of_gt (blk_lt (g:=gb140) (o:=.cells #[.slice none 0 0,.slice none 0 0,.slice none 0 0] 26 (0,0)) (blkU BK140.out)) : gb144 ≠ gb140));clear HO143 BK140 HB;have HO143:=n0_;have BK140:=n1_;have HB:=n2_;have BK144:=n3_;have GW144:=n4_;have GE144:=n5_;have NB140_144:=n6_;have NB144_140:=n7_;clear n0_ n1_ n2_ n3_ n4_ n5_ n6_ n7_ hb hbox hg;have hnb10:=NB144_140.out;have hnc10:=NB140_144.out;have hcz11_0 : w9.cell? ⟨gb144,0,none⟩ = some (.slice none 0 0):=(blk_cell BK144.out 0).trans rfl;have hcz11_1 : w9.cell? ⟨gb144,1,none⟩ = some (.slice none 0 0):=(blk_cell BK144.out 1).trans rfl;have hcz11_2 : w9.cell? ⟨gb144,2,none⟩ = some (.slice none 0 0):=(blk_cell BK144.out 2).trans rfl;have hfz11_0:=blk_frozen BK144.out 0;have hfz11_1:=blk_frozen BK144.out 1;have hfz11_2:=blk_frozen BK144.out 2))
   go_loopg [11] k (fun kq v11 w' => ∃ (x11_1 : Int) (x145000_1 : List Int) (x145001_1 : List Int) (u145000 : Value) (u145001 : Value),v11 = .int .i64 x11_1 ∧ Aside0 (impl_counting.l0 kq a0 a1 a1 x11_1 x145000_1 x145001_1 y141 = some (r1,r2,r3)) ∧ Aside0 (kq ≤ k) ∧ Aside0 (Kd.R (Kd.int .i64) 3 w' w.heap.size (fun k_ => some k_ ≠ (u145001 : Value).ownBlock ∧ some k_ ≠ ((.slice Ao8 y141.length co8) : Value).ownBlock) u145000 x145000_1) ∧ Aside0 (Kd.R (Kd.int .i64) 3 w' w.heap.size (fun k_ => some k_ ≠ (u145000 : Value).ownBlock ∧ some k_ ≠ ((.slice Ao8 y141.length co8) : Value).ownBlock) u145001 x145001_1) ∧ Aside0 (Kd.R (Kd.int .i64) 3 w' w.heap.size (fun k_ => some k_ ≠ (u145000 : Value).ownBlock ∧ some k_ ≠ (u145001 : Value).ownBlock) (.slice Ao8 y141.length co8) y141) ∧ Aside0 (w'.heap[gb140]? = some (.cells #[(.slice none 0 0),(.slice none 0 0),(.slice none 0 0)] 26 (0,0))) ∧ Aside0 (w'.heap[gb144]? = some (.cells #[u145000,u145001,(.slice Ao8 y141.length co8)] 26 (0,0))) ∧ Aside0 (Below w.heap.size w w'))
   case atStart => exact ⟨(0),(([] : List Int)),(([] : List Int)),(.slice none 0 0),(.slice none 0 0),(by first|rfl|(simp;done)|(simp [*];done)),H',⟨Nat.le_refl _⟩,⟨by first|exact Kd.R_nil _ _ _ _ _|exact Kd.N_nil _ _ _ _ _|exact Kd.V_nil _ _ _ _ _|exact Kd.Q_nil _ _ _ _ _|exact Kd.S_nil _ _ _ _ _⟩,⟨by first|exact Kd.R_nil _ _ _ _ _|exact Kd.N_nil _ _ _ _ _|exact Kd.V_nil _ _ _ _ _|exact Kd.Q_nil _ _ _ _ _|exact Kd.S_nil _ _ _ _ _⟩,⟨by (with_reducible repeat (first|apply Kd.R_alloc|apply Kd.R_drewN|apply Kd.R_drew));exact Kd.R_mono (Kd.R_far (p:=⟨gb144,2,none⟩) (Kd.R_far (p:=⟨gb144,1,none⟩) (Kd.R_far (p:=⟨gb144,0,none⟩) (Kd.R_types HO143.out BK144.out (by decide)) (fun _ hk => hk.2) (.slice none 0 0)) (fun _ hk => hk.2) (.slice none 0 0)) (fun _ hk => hk.2) (.slice Ao8 y141.length co8)) (fun _ hk => ⟨(by simp [Value.ownBlock]),(by simp [Value.ownBlock])⟩)⟩,⟨by (with_reducible repeat (first|refine blk_drewN ?_ _|refine blk_drew ?_|refine blk_alloc ?_ _));refine blk_far ?_ NB140_144.out _;(with_reducible repeat (first|refine blk_drewN ?_ _|refine blk_drew ?_|refine blk_alloc ?_ _));refine blk_far ?_ NB140_144.out _;(with_reducible repeat (first|refine blk_drewN ?_ _|refine blk_drew ?_|refine blk_alloc ?_ _));refine blk_far ?_ NB140_144.out _;(with_reducible repeat (first|refine blk_drewN ?_ _|refine blk_drew ?_|refine blk_alloc ?_ _));exact BK140.out⟩,⟨by (with_reducible repeat (first|refine blk_drewN ?_ _|refine blk_drew ?_|refine blk_alloc ?_ _));refine blk_put (cs:=#[.slice none 0 0,.slice none 0 0,.slice none 0 0]) ?_ 2 _ rfl;(with_reducible repeat (first|refine blk_drewN ?_ _|refine blk_drew ?_|refine blk_alloc ?_ _));refine blk_put (cs:=#[.slice none 0 0,.slice none 0 0,.slice none 0 0]) ?_ 1 _ rfl;(with_reducible repeat (first|refine blk_drewN ?_ _|refine blk_drew ?_|refine blk_alloc ?_ _));refine blk_put (cs:=#[.slice none 0 0,.slice none 0 0,.slice none 0 0]) ?_ 0 _ rfl;(with_reducible repeat (first|refine blk_drewN ?_ _|refine blk_drew ?_|refine blk_alloc ?_ _));exact BK144.out⟩,⟨by repeat (first|(with_reducible first|exact HB.out|apply below_alloc|apply pw_below_drewN|apply below_drew1|refine below_set ?_ GE140.out|refine below_set ?_ GE144.out)|exact HB.out)⟩⟩
   case round =>
    clear H'
    try clear c1
    try clear c2
    try clear p2
    try clear c3
    try clear c3b0
    try clear c3b1
    try clear c4
    try clear c4b0
    try clear c4b1
    try clear c10
    try clear hcz11_0
    try clear hcz11_1
    try clear hcz11_2
    try clear hfz11_0
    try clear hfz11_1
    try clear hfz11_2
    obtain ⟨x11_1,x145000_1,x145001_1,u145000,u145001,rfl,HA,HK1,HO_145000,HO_145001,HO_145002,BK140,BK144,HB⟩:=hrel
    cases gk with
    | zero => exact absurd HA.out (by simp [impl_counting.l0])
    | succ k1 =>
     have H:=HA.out;clear HA
     simp only [impl_counting.l0] at H
     by_cases c12 : x11_1 < a1
     ·
      rw [if_pos c12] at H
      have c12b0 : decide (x11_1 < a1) = true:=decide_eq_true c12;clear c12
      by_cases c13 : x145000_1.length < 17592186044416
      ·
       rw [if_pos c13] at H
       have LMc13:=Aside0.mk c13;clear c13
       obtain ⟨y145,hy145⟩ : ∃ y_ : List Int,y_ = (x145000_1 ++ [x11_1]):=⟨_,rfl⟩
       replace H : (if x145001_1.length < 17592186044416 then (impl_counting.l0 k1 a0 a1 a1 (wrap64 (x11_1 + 1)) y145 (x145001_1 ++ [mn (wrap64 (x11_1 + 1)) (wrap64 (a1 - 1))]) y141) else (none)) = some (r1,r2,r3):=by first|(rw [hy145];with_reducible exact H)|(have H2_:=(Option.bind_some _ _).symm.trans H;rw [hy145];with_reducible exact H2_)|(have H2_:=(Option.bind_some _ _).symm.trans H;with_reducible exact H2_)|with_reducible exact H|(rw [hy145];exact H)|exact H
       have Ny145:=Aside0.mk hy145;clear hy145
       obtain ⟨ji14,hji14⟩ : ∃ j_ : Int,(mn (wrap64 (x11_1 + 1)) (wrap64 (a1 - 1))) = j_:=⟨_,rfl⟩
       replace H : (if x145001_1.length < 17592186044416 then (impl_counting.l0 k1 a0 a1 a1 (wrap64 (x11_1 + 1)) y145 (x145001_1 ++ [ji14]) y141) else (none)) = some (r1,r2,r3):=by first|(rw [hji14] at H;exact H)|(simp only [hji14] at H ⊢;exact H)
       have hji14_ : (if (wrap64 (a1 - 1)) < (wrap64 (x11_1 + 1)) then (wrap64 (a1 - 1)) else (wrap64 (x11_1 + 1))) = ji14:=hji14
       by_cases c15 : x145001_1.length < 17592186044416
       ·
        rw [if_pos c15] at H
        have LMc15:=Aside0.mk c15;clear c15
        obtain ⟨y148,hy148⟩ : ∃ y_ : List Int,y_ = (x145001_1 ++ [ji14]):=⟨_,rfl⟩
        replace H : (impl_counting.l0 k1 a0 a1 a1 (wrap64 (x11_1 + 1)) y145 y148 y141) = some (r1,r2,r3):=by first|(rw [hy148];with_reducible exact H)|(have H2_:=(Option.bind_some _ _).symm.trans H;rw [hy148];with_reducible exact H2_)|(have H2_:=(Option.bind_some _ _).symm.trans H;with_reducible exact H2_)|with_reducible exact H|(rw [hy148];exact H)|exact H
        have Ny148:=Aside0.mk hy148;clear hy148
        have H':=Aside0.mk H;clear H;have hnb16:=NB144_140.out;have hnc16:=NB140_144.out
        have hcz17_0 : wr.cell? ⟨gb144,0,none⟩ = some (u145000):=(blk_cell BK144.out 0).trans rfl
        have hcz17_1 : wr.cell? ⟨gb144,1,none⟩ = some (u145001):=(blk_cell BK144.out 1).trans rfl
        have hcz17_2 : wr.cell? ⟨gb144,2,none⟩ = some (.slice Ao8 y141.length co8):=(blk_cell BK144.out 2).trans rfl
        have hfz17_0:=blk_frozen BK144.out 0
        have hfz17_1:=blk_frozen BK144.out 1
        have hfz17_2:=blk_frozen BK144.out 2
        go_wp2_with (first|((with_reducible refine gate_builtin (b:=.append) (xs:=#[.tmp 15,.tmp 17]) rfl ?_);at_builtin;refine Kd.R_append (Kd.int .i64) (w0:=w) w.heap.size rfl (.tmp 15) (.tmp 17) 24 3 (.int .i64 0) 8 rfl Try.underlying24 info3 rfl (by decide) (by omega) u145000 x145000_1 x11_1 [.int .i64 x11_1] (fun k_ => some k_ ≠ (u145001 : Value).ownBlock ∧ some k_ ≠ (.slice Ao8 y141.length co8 : Value).ownBlock) (fun _ => False) rfl rfl ?aP (fun _ hk => hk.elim) ?aF ?aO ?aB ?aS ?aL ?_;(case aP => exact rfl);(case aB => exact (by repeat (first|(with_reducible first|exact HB.out|apply below_alloc|apply pw_below_drewN|apply below_drew1|refine below_set ?_ GE140.out|refine below_set ?_ GE144.out)|exact HB.out)));(case aF => exact (fun k_ hk => ⟨Kd.fresh' (Kd.R_lt (rU HO_145001.out)) k_ hk,Kd.fresh' (Kd.R_lt (rU HO_145002.out)) k_ hk⟩));(case aO => exact (rU HO_145000.out));(case aS => exact (below_size (by repeat (first|(with_reducible first|exact HB.out|apply below_alloc|apply pw_below_drewN|apply below_drew1|refine below_set ?_ GE140.out|refine below_set ?_ GE144.out)|exact HB.out))));(case aL => have:=LMc13.out;omega);intro v146 w18 ho hb hg hat;rw [← Ny145.out] at ho;have n0_:=Aside0.mk (Kd.R_after (ok:=(fun k_ => some k_ ≠ (.slice Ao8 y141.length co8 : Value).ownBlock)) (by (with_reducible repeat (first|apply Kd.R_alloc|apply Kd.R_drewN|apply Kd.R_drew));exact Kd.R_mono HO_145001.out (fun _ hk => ⟨hk.2,hk.1⟩)) hg hat);have n1_:=Aside0.mk (Kd.R_after (ok:=(fun k_ => some k_ ≠ (u145001 : Value).ownBlock)) (by (with_reducible repeat (first|apply Kd.R_alloc|apply Kd.R_drewN|apply Kd.R_drew));exact Kd.R_mono HO_145002.out (fun _ hk => ⟨hk.2,hk.1⟩)) hg hat);have n2_:=Aside0.mk (blk_grown (g:=gb140) (o:=.cells #[.slice none 0 0,.slice none 0 0,.slice none 0 0] 26 (0,0)) (blkU BK140.out) hg (Kd.R_ne HO_145000.out BK140.out (by decide)));have n3_:=Aside0.mk (blk_grown (g:=gb144) (o:=.cells #[u145000,u145001,.slice Ao8 y141.length co8] 26 (0,0)) (blkU BK144.out) hg (Kd.R_ne HO_145000.out BK144.out (by decide)));have n4_:=Aside0.mk (hb);have n5_:=Aside0.mk (ho);clear HO_145001 HO_145002 BK140 BK144 HB HO_145000;have HO_145001:=n0_;have HO_145002:=n1_;have BK140:=n2_;have BK144:=n3_;have HB:=n4_;have HO147:=n5_;clear n0_ n1_ n2_ n3_ n4_ n5_ ho hb hg hat;obtain ⟨Ao19,co19,eo19⟩:=Kd.R_slice HO147.out;subst eo19;have hcz20_0 : w18.cell? ⟨gb144,0,none⟩ = some (u145000):=(blk_cell BK144.out 0).trans rfl;have hcz20_1 : w18.cell? ⟨gb144,1,none⟩ = some (u145001):=(blk_cell BK144.out 1).trans rfl;have hcz20_2 : w18.cell? ⟨gb144,2,none⟩ = some (.slice Ao8 y141.length co8):=(blk_cell BK144.out 2).trans rfl;have hfz20_0:=blk_frozen BK144.out 0;have hfz20_1:=blk_frozen BK144.out 1;have hfz20_2:=blk_frozen BK144.out 2)|((with_reducible refine gate_builtin (b:=.append) (xs:=#[.tmp 21,.tmp 27]) rfl ?_);at_builtin;refine Kd.R_append (Kd.int .i64) (w0:=w) w.heap.size rfl (.tmp 21) (.tmp 27) 24 3 (.int .i64 0) 8 rfl Try.underlying24 info3 rfl (by decide) (by omega) u145001 x145001_1 ji14 [.int .i64 ji14] (fun k_ => some k_ ≠ (.slice Ao8 y141.length co8 : Value).ownBlock ∧ some k_ ≠ (.slice Ao19 y145.length co19 : Value).ownBlock) (fun _ => False) rfl (by first|(go_simp;done)|(go_simp;rfl)) ?aP (fun _ hk => hk.elim) ?aF ?aO ?aB ?aS ?aL ?_;(case aP => exact rfl);(case aB => exact (by repeat (first|(with_reducible first|exact HB.out|apply below_alloc|apply pw_below_drewN|apply below_drew1|refine below_set ?_ GE140.out|refine below_set ?_ GE144.out)|exact HB.out)));(case aF => exact (fun k_ hk => ⟨Kd.fresh' (Kd.R_lt (by (with_reducible repeat (first|apply Kd.R_alloc|apply Kd.R_drewN|apply Kd.R_drew));exact (Kd.R_mono (Kd.R_far (p:=⟨gb144,0,none⟩) (Kd.R_types HO_145002.out BK144.out (by decide)) (fun _ hk => hk.2) (.slice Ao19 y145.length co19)) (fun _ h_ => h_.1)))) k_ hk,Kd.fresh' (Kd.R_lt (by (with_reducible repeat (first|apply Kd.R_alloc|apply Kd.R_drewN|apply Kd.R_drew));exact (Kd.R_mono (Kd.R_far (p:=⟨gb144,0,none⟩) (Kd.R_types HO147.out BK144.out (by decide)) (fun _ hk => hk.2) (.slice Ao19 y145.length co19)) (fun _ h_ => h_.1)))) k_ hk⟩));(case aO => exact (by (with_reducible repeat (first|apply Kd.R_alloc|apply Kd.R_drewN|apply Kd.R_drew));exact Kd.R_mono (Kd.R_far (p:=⟨gb144,0,none⟩) (Kd.R_types HO_145001.out BK144.out (by decide)) (fun _ hk => hk.2) (.slice Ao19 y145.length co19)) (fun _ hk => ⟨hk.1.1,hk.1.2⟩)));(case aS => exact (below_size (by repeat (first|(with_reducible first|exact HB.out|apply below_alloc|apply pw_below_drewN|apply below_drew1|refine below_set ?_ GE140.out|refine below_set ?_ GE144.out)|exact HB.out))));(case aL => have:=LMc15.out;omega);intro v149 w21 ho hb hg hat;rw [← Ny148.out] at ho;have n0_:=Aside0.mk (Kd.R_after (ok:=(fun k_ => some k_ ≠ (.slice Ao19 y145.length co19 : Value).ownBlock)) (by (with_reducible repeat (first|apply Kd.R_alloc|apply Kd.R_drewN|apply Kd.R_drew));exact Kd.R_mono (Kd.R_far (p:=⟨gb144,0,none⟩) (Kd.R_types HO_145002.out BK144.out (by decide)) (fun _ hk => hk.2) (.slice Ao19 y145.length co19)) (fun _ hk => ⟨hk.1.2,hk.1.1⟩)) hg hat);have n1_:=Aside0.mk (blk_grown (g:=gb140) (o:=.cells #[.slice none 0 0,.slice none 0 0,.slice none 0 0] 26 (0,0)) (by (with_reducible repeat (first|refine blk_drewN ?_ _|refine blk_drew ?_|refine blk_alloc ?_ _));refine blk_far ?_ NB140_144.out _;(with_reducible repeat (first|refine blk_drewN ?_ _|refine blk_drew ?_|refine blk_alloc ?_ _));exact BK140.out) hg (Kd.R_ne HO_145001.out BK140.out (by decide)));have n2_:=Aside0.mk (blk_grown (g:=gb144) (o:=.cells #[.slice Ao19 y145.length co19,u145001,.slice Ao8 y141.length co8] 26 (0,0)) (by (with_reducible repeat (first|refine blk_drewN ?_ _|refine blk_drew ?_|refine blk_alloc ?_ _));refine blk_put (cs:=#[u145000,u145001,.slice Ao8 y141.length co8]) ?_ 0 _ rfl;(with_reducible repeat (first|refine blk_drewN ?_ _|refine blk_drew ?_|refine blk_alloc ?_ _));exact BK144.out) hg (Kd.R_ne HO_145001.out BK144.out (by decide)));have n3_:=Aside0.mk (Kd.R_after (ok:=(fun k_ => some k_ ≠ (.slice Ao8 y141.length co8 : Value).ownBlock)) (by (with_reducible repeat (first|apply Kd.R_alloc|apply Kd.R_drewN|apply Kd.R_drew));exact Kd.R_mono (Kd.R_far (p:=⟨gb144,0,none⟩) (Kd.R_types HO147.out BK144.out (by decide)) (fun _ hk => hk.2) (.slice Ao19 y145.length co19)) (fun _ hk => ⟨hk.1.2,hk.1.1⟩)) hg hat);have n4_:=Aside0.mk (hb);have n5_:=Aside0.mk (ho);clear HO_145002 BK140 BK144 HO147 HB HO_145001;have HO_145002:=n0_;have BK140:=n1_;have BK144:=n2_;have HO147:=n3_;have HB:=n4_;have HO150:=n5_;clear n0_ n1_ n2_ n3_ n4_ n5_ ho hb hg hat;obtain ⟨Ao22,co22,eo22⟩:=Kd.R_slice HO150.out;subst eo22;have hcz23_0 : w21.cell? ⟨gb144,0,none⟩ = some (.slice Ao19 y145.length co19):=(blk_cell BK144.out 0).trans rfl;have hcz23_1 : w21.cell? ⟨gb144,1,none⟩ = some (u145001):=(blk_cell BK144.out 1).trans rfl;have hcz23_2 : w21.cell? ⟨gb144,2,none⟩ = some (.slice Ao8 y141.length co8):=(blk_cell BK144.out 2).trans rfl;have hfz23_0:=blk_frozen BK144.out 0;have hfz23_1:=blk_frozen BK144.out 1;have hfz23_2:=blk_frozen BK144.out 2))
        go_roundg k1
        case measure => have:=HK1.out;omega
        case rel => exact ⟨(wrap64 (x11_1 + 1)),(y145),(y148),(.slice Ao19 y145.length co19),(.slice Ao22 y148.length co22),(by first|rfl|(simp;done)|(simp [*];done)),H',⟨by have:=HK1.out;omega⟩,⟨by (with_reducible repeat (first|apply Kd.R_alloc|apply Kd.R_drewN|apply Kd.R_drew));exact Kd.R_mono (Kd.R_far (p:=⟨gb144,1,none⟩) (Kd.R_types HO147.out BK144.out (by decide)) (fun _ hk => hk.2) (.slice Ao22 y148.length co22)) (fun _ hk => ⟨hk.1.2,hk.1.1⟩)⟩,⟨by (with_reducible repeat (first|apply Kd.R_alloc|apply Kd.R_drewN|apply Kd.R_drew));exact Kd.R_mono (Kd.R_far (p:=⟨gb144,1,none⟩) (Kd.R_types HO150.out BK144.out (by decide)) (fun _ hk => hk.2) (.slice Ao22 y148.length co22)) (fun _ hk => ⟨hk.1.2,hk.1.1⟩)⟩,⟨by (with_reducible repeat (first|apply Kd.R_alloc|apply Kd.R_drewN|apply Kd.R_drew));exact Kd.R_mono (Kd.R_far (p:=⟨gb144,1,none⟩) (Kd.R_types HO_145002.out BK144.out (by decide)) (fun _ hk => hk.2) (.slice Ao22 y148.length co22)) (fun _ hk => ⟨hk.1.1,hk.1.2⟩)⟩,⟨by (with_reducible repeat (first|refine blk_drewN ?_ _|refine blk_drew ?_|refine blk_alloc ?_ _));refine blk_far ?_ NB140_144.out _;(with_reducible repeat (first|refine blk_drewN ?_ _|refine blk_drew ?_|refine blk_alloc ?_ _));exact BK140.out⟩,⟨by (with_reducible repeat (first|refine blk_drewN ?_ _|refine blk_drew ?_|refine blk_alloc ?_ _));refine blk_put (cs:=#[.slice Ao19 y145.length co19,u145001,.slice Ao8 y141.length co8]) ?_ 1 _ rfl;(with_reducible repeat (first|refine blk_drewN ?_ _|refine blk_drew ?_|refine blk_alloc ?_ _));exact BK144.out⟩,⟨by repeat (first|(with_reducible first|exact HB.out|apply below_alloc|apply pw_below_drewN|apply below_drew1|refine below_set ?_ GE140.out|refine below_set ?_ GE144.out)|exact HB.out)⟩⟩
       ·
        rw [if_neg c15] at H
        exact absurd H (by simp)
      ·
       rw [if_neg c13] at H
       exact absurd H (by simp)
     ·
      rw [if_neg c12] at H
      have c12b0 : decide (x11_1 < a1) = false:=decide_eq_false c12;clear c12
      by_cases c24 : 0 ≤ a0
      ·
       rw [if_pos c24] at H
       have c24b0 : decide (0 ≤ a0) = true:=decide_eq_true c24;clear c24
       by_cases c25 : a0 < (y141.length : Int)
       ·
        rw [if_pos c25] at H
        have c25b0 : decide (a0 < (y141.length : Int)) = true:=decide_eq_true c25;clear c25
        obtain ⟨y151,hy151⟩ : ∃ y_ : List Int,y_ = (y141.set (a0 : Int).toNat 1):=⟨_,rfl⟩
        replace H : (some (x145000_1,x145001_1,y151)) = some (r1,r2,r3):=by first|(rw [hy151];with_reducible exact H)|(have H2_:=(Option.bind_some _ _).symm.trans H;rw [hy151];with_reducible exact H2_)|(have H2_:=(Option.bind_some _ _).symm.trans H;with_reducible exact H2_)|with_reducible exact H|(rw [hy151];exact H)|exact H
        have Ny151:=Aside0.mk hy151;clear hy151
        simp only [Option.some.injEq,Prod.mk.injEq] at H
        obtain ⟨rfl,rfl,rfl⟩:=H;have hnb27:=NB144_140.out;have hnc27:=NB140_144.out
        have hcz28_0 : wr.cell? ⟨gb144,0,none⟩ = some (u145000):=(blk_cell BK144.out 0).trans rfl
        have hcz28_1 : wr.cell? ⟨gb144,1,none⟩ = some (u145001):=(blk_cell BK144.out 1).trans rfl
        have hcz28_2 : wr.cell? ⟨gb144,2,none⟩ = some (.slice Ao8 y141.length co8):=(blk_cell BK144.out 2).trans rfl
        have hfz28_0:=blk_frozen BK144.out 0
        have hfz28_1:=blk_frozen BK144.out 1
        have hfz28_2:=blk_frozen BK144.out 2
        have p26 : 0 ≤ (a0 : Int):=of_decide_eq_true (by first|(with_reducible assumption)|assumption)
        have q26 : (a0 : Int) < ((y141.length : Int) : Int):=of_decide_eq_true (by first|(with_reducible assumption)|assumption)
        obtain ⟨go26,co26,eo26,gb26,gl26,cl26,HG26⟩:=Kd.R_form HO_145002.out (by omega)
        (first|cases eo26|(injection eo26 with ea_ en_ ec_;(first|subst ea_|(injection ea_ with ea_;subst ea_));subst ec_;clear en_))
        have GB26:=Aside0.mk gb26
        have GG26:=Aside0.mk HG26;clear gb26 gl26 HG26
        obtain ⟨hx26_0,hf26_0⟩:=Kd.R_celln 0 HO_145002.out (a0 : Int) p26 q26
        replace p26:=eq_true p26
        replace q26:=eq_true q26
        have HP29:=Kd.R_putg HO_145002.out (a0 : Int) 1
        go_wp2_with (first|((with_reducible refine gate_store (t:=3) (p:=34) rfl ?_);refine store_event (t:=3) (p:=34) (v:=?vo_w30) (w1:=(wr.setCell ⟨go26,(a0 : Int).toNat,none⟩ (.int .i64 1))) ?hg ?ho ?hn ?hr ?_;(case ho => rfl);(case hg => rfl);(case hn => rfl);(case hr => first|(go_simp;done)|(go_simp;rfl));intro w30 hw;have hg : wr.grownBy w30 (some go26):=(by rw [hw];exact HP29.2);have hp_ : Kd.R (Kd.int .i64) 3 w30 w.heap.size (fun k_ => some k_ ≠ (u145000 : Value).ownBlock ∧ some k_ ≠ (u145001 : Value).ownBlock) (.slice (some ⟨go26,0,none⟩) y141.length co8) y151:=(by rw [hw,Ny151.out];exact HP29.1);clear HP29;have n0_:=Aside0.mk (Kd.R_after (v:=(.slice (some ⟨go26,0,none⟩) y141.length co8)) (v1:=(.slice (some ⟨go26,0,none⟩) y141.length co8)) (ok:=(fun k_ => some k_ ≠ (u145001 : Value).ownBlock)) (rU HO_145000.out) hg (.inl rfl));have n1_:=Aside0.mk (Kd.R_after (v:=(.slice (some ⟨go26,0,none⟩) y141.length co8)) (v1:=(.slice (some ⟨go26,0,none⟩) y141.length co8)) (ok:=(fun k_ => some k_ ≠ (u145000 : Value).ownBlock)) (rU HO_145001.out) hg (.inl rfl));have n2_:=Aside0.mk (hp_);have n3_:=Aside0.mk (blk_grown (g:=gb140) (o:=.cells #[.slice none 0 0,.slice none 0 0,.slice none 0 0] 26 (0,0)) (blkU BK140.out) hg (Kd.R_ne HO_145002.out BK140.out (by decide)));have n4_:=Aside0.mk (blk_grown (g:=gb144) (o:=.cells #[u145000,u145001,.slice (some ⟨go26,0,none⟩) y141.length co8] 26 (0,0)) (blkU BK144.out) hg (Kd.R_ne HO_145002.out BK144.out (by decide)));have n5_:=Aside0.mk ((by rw [hw];exact below_set (HB.out) GB26.out : Below w.heap.size w w30));clear HO_145000 HO_145001 HO_145002 BK140 BK144 HB;have HO_145000:=n0_;have HO_145001:=n1_;have HO_145002:=n2_;have BK140:=n3_;have BK144:=n4_;have HB:=n5_;clear n0_ n1_ n2_ n3_ n4_ n5_ hg hw hp_;have hcz31_0 : w30.cell? ⟨gb144,0,none⟩ = some (u145000):=(blk_cell BK144.out 0).trans rfl;have hcz31_1 : w30.cell? ⟨gb144,1,none⟩ = some (u145001):=(blk_cell BK144.out 1).trans rfl;have hcz31_2 : w30.cell? ⟨gb144,2,none⟩ = some (.slice (some ⟨go26,0,none⟩) y141.length co8):=(blk_cell BK144.out 2).trans rfl;have hfz31_0:=blk_frozen BK144.out 0;have hfz31_1:=blk_frozen BK144.out 1;have hfz31_2:=blk_frozen BK144.out 2;obtain ⟨Ao32,co32,eo32⟩:=Kd.R_slice HO_145000.out;subst eo32;have hcz33_0 : w30.cell? ⟨gb140,0,none⟩ = some (.slice none 0 0):=(blk_cell BK140.out 0).trans rfl;have hcz33_1 : w30.cell? ⟨gb140,1,none⟩ = some (.slice none 0 0):=(blk_cell BK140.out 1).trans rfl;have hcz33_2 : w30.cell? ⟨gb140,2,none⟩ = some (.slice none 0 0):=(blk_cell BK140.out 2).trans rfl;have hfz33_0:=blk_frozen BK140.out 0;have hfz33_1:=blk_frozen BK140.out 1;have hfz33_2:=blk_frozen BK140.out 2;obtain ⟨Ao34,co34,eo34⟩:=Kd.R_slice HO_145001.out;subst eo34))
        refine bodyPost_ret (results_cell_row rfl _ _ gb140 26 #[.slice Ao32 x145000_1.length co32,.slice Ao34 x145001_1.length co34,.slice (some ⟨go26,0,none⟩) y141.length co8] (0,0) _ rfl (by (with_reducible repeat (first|refine blk_drewN ?_ _|refine blk_drew ?_|refine blk_alloc ?_ _));refine blk_put (cs:=#[.slice Ao32 x145000_1.length co32,.slice Ao34 x145001_1.length co34,.slice none 0 0]) ?_ 2 _ rfl;(with_reducible repeat (first|refine blk_drewN ?_ _|refine blk_drew ?_|refine blk_alloc ?_ _));refine blk_put (cs:=#[.slice Ao32 x145000_1.length co32,.slice none 0 0,.slice none 0 0]) ?_ 1 _ rfl;(with_reducible repeat (first|refine blk_drewN ?_ _|refine blk_drew ?_|refine blk_alloc ?_ _));refine blk_put (cs:=#[.slice none 0 0,.slice none 0 0,.slice none 0 0]) ?_ 0 _ rfl;(with_reducible repeat (first|refine blk_drewN ?_ _|refine blk_drew ?_|refine blk_alloc ?_ _));exact BK140.out) Try.underlying26 rfl (by kernel_rfl)) rfl ?_
        exact ⟨_,_,_,by first|rfl|(simp [errW_none,errW_some] <;> rfl)|(simp [*,errW_none,errW_some] <;> rfl),by (with_reducible repeat (first|apply Kd.R_alloc|apply Kd.R_drewN|apply Kd.R_drew));exact Kd.R_mono (Kd.R_far (p:=⟨gb140,2,none⟩) (Kd.R_far (p:=⟨gb140,1,none⟩) (Kd.R_far (p:=⟨gb140,0,none⟩) (Kd.R_types HO_145000.out BK140.out (by decide)) (fun _ hk => hk.2) (.slice Ao32 x145000_1.length co32)) (fun _ hk => hk.2) (.slice Ao34 x145001_1.length co34)) (fun _ hk => hk.2) (.slice (some ⟨go26,0,none⟩) y141.length co8)) (fun _ hk => ⟨hk.1.1,hk.1.2⟩),by (with_reducible repeat (first|apply Kd.R_alloc|apply Kd.R_drewN|apply Kd.R_drew));exact Kd.R_mono (Kd.R_far (p:=⟨gb140,2,none⟩) (Kd.R_far (p:=⟨gb140,1,none⟩) (Kd.R_far (p:=⟨gb140,0,none⟩) (Kd.R_types HO_145001.out BK140.out (by decide)) (fun _ hk => hk.2) (.slice Ao32 x145000_1.length co32)) (fun _ hk => hk.2) (.slice Ao34 x145001_1.length co34)) (fun _ hk => hk.2) (.slice (some ⟨go26,0,none⟩) y141.length co8)) (fun _ hk => ⟨hk.1.1,hk.1.2⟩),by (with_reducible repeat (first|apply Kd.R_alloc|apply Kd.R_drewN|apply Kd.R_drew));exact Kd.R_mono (Kd.R_far (p:=⟨gb140,2,none⟩) (Kd.R_far (p:=⟨gb140,1,none⟩) (Kd.R_far (p:=⟨gb140,0,none⟩) (Kd.R_types HO_145002.out BK140.out (by decide)) (fun _ hk => hk.2) (.slice Ao32 x145000_1.length co32)) (fun _ hk => hk.2) (.slice Ao34 x145001_1.length co34)) (fun _ hk => hk.2) (.slice (some ⟨go26,0,none⟩) y141.length co8)) (fun _ hk => ⟨hk.1.1,hk.1.2⟩),by repeat (first|(with_reducible first|exact HB.out|apply below_alloc|apply pw_below_drewN|apply below_drew1|refine below_set ?_ GE140.out|refine below_set ?_ GE144.out)|exact HB.out)⟩
       ·
        rw [if_neg c25] at H
        exact absurd H (by simp)
      ·
       rw [if_neg c24] at H
       exact absurd H (by simp)
  ·
   rw [if_neg c4] at H
   exact absurd H (by simp)
 ·
  rw [if_neg c3] at H
  exact absurd H (by simp)

/-! ### stringslite_HasPrefix: function 70 -/
def stringslite_HasPrefix.f (a0 : ByteArray) (a1 : ByteArray) : Option (Bool):=if (a0.size : Int) ≥ (a1.size : Int) then (if 0 ≤ (a1.size : Int) then (if (a1.size : Int) ≤ (a0.size : Int) then (some ((a0.extract 0 ((a1.size : Int) : Int).toNat).toList == a1.toList)) else (none)) else (none)) else (some false)
set_option maxHeartbeats 8000000 in
set_option maxRecDepth 100000 in
theorem stringslite_HasPrefix.calls (a0 : ByteArray) (a1 : ByteArray) (r : Bool) (w : World) (h : stringslite_HasPrefix.f a0 a1 = some r) :
  Calls Try.prog 70 #[.string a0,.string a1] w fun e w' => e = .returned (.bool r) ∧ Drawn0 w w':=by
 have H : (if (a0.size : Int) ≥ (a1.size : Int) then (if 0 ≤ (a1.size : Int) then (if (a1.size : Int) ≤ (a0.size : Int) then (some ((a0.extract 0 ((a1.size : Int) : Int).toNat).toList == a1.toList)) else (none)) else (none)) else (some false)) = some r:=h;clear h
 by_cases c3 : (a0.size : Int) ≥ (a1.size : Int)
 ·
  rw [if_pos c3] at H
  have c3b0 : decide ((a1.size : Int) ≤ (a0.size : Int)) = true:=decide_eq_true c3
  have c3b1 : decide (a1.size ≤ a0.size) = true:=decide_eq_true (Int.ofNat_le.mp c3);clear c3
  by_cases c4 : 0 ≤ (a1.size : Int)
  ·
   rw [if_pos c4] at H
   have c4b0:=eq_true c4
   have c4b1 : decide (0 ≤ (a1.size : Int)) = true:=decide_eq_true c4;clear c4
   by_cases c5 : (a1.size : Int) ≤ (a0.size : Int)
   ·
    rw [if_pos c5] at H
    have c5b0:=eq_true c5
    have c5b1 : decide ((a1.size : Int) ≤ (a0.size : Int)) = true:=decide_eq_true c5;clear c5
    obtain rfl:=Option.some.inj H
    go_enter Try.func70,Try.ntmps70
    go_wp2
    go_ret
    exact ⟨by first|rfl|(simp;done)|(simp [*];done),by repeat (first|exact Drawn0.refl _|apply Drawn0.step)⟩
   ·
    rw [if_neg c5] at H
    exact absurd H (by simp)
  ·
   rw [if_neg c4] at H
   exact absurd H (by simp)
 ·
  rw [if_neg c3] at H
  have c3b0 : decide ((a1.size : Int) ≤ (a0.size : Int)) = false:=decide_eq_false c3
  have c3b1 : decide (a1.size ≤ a0.size) = false:=decide_eq_false (fun h => c3 (Int.ofNat_le.mpr h));clear c3
  obtain rfl:=Option.some.inj H
  go_enter Try.func70,Try.ntmps70
  go_wp2
  go_ret
  exact ⟨by first|rfl|(simp;done)|(simp [*];done),by repeat (first|exact Drawn0.refl _|apply Drawn0.step)⟩

/-! ### stringslite_CutPrefix: function 65 -/
def stringslite_CutPrefix.f (a0 : ByteArray) (a1 : ByteArray) : Option (ByteArray × Bool):=(stringslite_HasPrefix.f a0 a1).bind fun t152 => (if t152 = true then (if 0 ≤ (a1.size : Int) then (if (a1.size : Int) ≤ (a0.size : Int) then (some (a0.extract ((a1.size : Int) : Int).toNat a0.size,true)) else (none)) else (none)) else (some (a0,false)))
set_option maxHeartbeats 8000000 in
set_option maxRecDepth 100000 in
theorem stringslite_CutPrefix.calls (a0 : ByteArray) (a1 : ByteArray) (r1 : ByteArray) (r2 : Bool) (w : World) (h : stringslite_CutPrefix.f a0 a1 = some (r1,r2)) :
  Calls Try.prog 65 #[.string a0,.string a1] w fun e w' => e = .returned (.tuple #[.string r1,.bool r2]) ∧ Drawn0 w w':=by
 have H : ((stringslite_HasPrefix.f a0 a1).bind fun t152 => (if t152 = true then (if 0 ≤ (a1.size : Int) then (if (a1.size : Int) ≤ (a0.size : Int) then (some (a0.extract ((a1.size : Int) : Int).toNat a0.size,true)) else (none)) else (none)) else (some (a0,false)))) = some (r1,r2):=h;clear h
 replace H:=Option.bind_eq_some_iff.mp H
 obtain ⟨t152,A30,H⟩:=H
 replace H : (if t152 = true then (if 0 ≤ (a1.size : Int) then (if (a1.size : Int) ≤ (a0.size : Int) then (some (a0.extract ((a1.size : Int) : Int).toNat a0.size,true)) else (none)) else (none)) else (some (a0,false))) = some (r1,r2):=H
 have A3:=Aside0.mk A30;clear A30
 by_cases c4 : t152 = true
 ·
  subst c4
  have H1 : (if 0 ≤ (a1.size : Int) then (if (a1.size : Int) ≤ (a0.size : Int) then (some (a0.extract ((a1.size : Int) : Int).toNat a0.size,true)) else (none)) else (none)) = some (r1,r2):=by rw [if_pos rfl] at H;exact H
  clear H;have H:=H1;clear H1
  by_cases c5 : 0 ≤ (a1.size : Int)
  ·
   rw [if_pos c5] at H
   have c5b0:=eq_true c5
   have c5b1 : decide (0 ≤ (a1.size : Int)) = true:=decide_eq_true c5;clear c5
   by_cases c6 : (a1.size : Int) ≤ (a0.size : Int)
   ·
    rw [if_pos c6] at H
    have c6b0:=eq_true c6
    have c6b1 : decide ((a1.size : Int) ≤ (a0.size : Int)) = true:=decide_eq_true c6;clear c6
    simp only [Option.some.injEq,Prod.mk.injEq] at H
    obtain ⟨rfl,rfl⟩:=H
    go_enter Try.func65,Try.ntmps65
    go_wp2_with (first|((with_reducible refine gate_callee (f:=70) rfl ?_);refine goesL_ (some 8) rfl rfl Try.func70 (by kernel_rfl) rfl #[.string a0,.string a1] rfl (by (try simp only [List.map_toArray,List.map_cons,List.map_nil]);first|done|rfl|(simp only [List.length_drop,List.length_take];rfl)) ?_;(with_reducible refine (stringslite_HasPrefix.calls a0 a1 true _ A3.out).mono ?_);rintro e w' ⟨rfl,⟨nd,rfl⟩⟩;refine ⟨_,rfl,?_⟩))
    go_ret2
    exact ⟨by first|rfl|(simp;done)|(simp [*];done),by repeat (first|exact Drawn0.refl _|apply Drawn0.step)⟩
   ·
    rw [if_neg c6] at H
    exact absurd H (by simp)
  ·
   rw [if_neg c5] at H
   exact absurd H (by simp)
 ·
  replace c4:=Bool.eq_false_iff.mpr c4;subst c4
  have H1 : (some (a0,false)) = some (r1,r2):=by rw [if_neg (show ¬ (false = true) by decide)] at H;exact H
  clear H;have H:=H1;clear H1
  simp only [Option.some.injEq,Prod.mk.injEq] at H
  obtain ⟨rfl,rfl⟩:=H
  go_enter Try.func65,Try.ntmps65
  go_wp2_with (first|((with_reducible refine gate_callee (f:=70) rfl ?_);refine goesL_ (some 8) rfl rfl Try.func70 (by kernel_rfl) rfl #[.string a0,.string a1] rfl (by (try simp only [List.map_toArray,List.map_cons,List.map_nil]);first|done|rfl|(simp only [List.length_drop,List.length_take];rfl)) ?_;(with_reducible refine (stringslite_HasPrefix.calls a0 a1 false _ A3.out).mono ?_);rintro e w' ⟨rfl,⟨nd,rfl⟩⟩;refine ⟨_,rfl,?_⟩))
  go_ret2
  exact ⟨by first|rfl|(simp;done)|(simp [*];done),by repeat (first|exact Drawn0.refl _|apply Drawn0.step)⟩

/-! ### strings_CutPrefix: function 40 -/
def strings_CutPrefix.f (a0 : ByteArray) (a1 : ByteArray) : Option (ByteArray × Bool):=(stringslite_CutPrefix.f a0 a1).bind fun bt153 => (some (bt153.1,bt153.2))
set_option maxHeartbeats 8000000 in
set_option maxRecDepth 100000 in
theorem strings_CutPrefix.calls (a0 : ByteArray) (a1 : ByteArray) (r1 : ByteArray) (r2 : Bool) (w : World) (h : strings_CutPrefix.f a0 a1 = some (r1,r2)) :
  Calls Try.prog 40 #[.string a0,.string a1] w fun e w' => e = .returned (.tuple #[.string r1,.bool r2]) ∧ Drawn0 w w':=by
 have H : ((stringslite_CutPrefix.f a0 a1).bind fun bt153 => (some (bt153.1,bt153.2))) = some (r1,r2):=h;clear h
 replace H:=Option.bind_eq_some_iff.mp H
 obtain ⟨⟨t153,t154⟩,A30,H⟩:=H
 replace H : (some (t153,t154)) = some (r1,r2):=H
 have A3:=Aside0.mk A30;clear A30
 simp only [Option.some.injEq,Prod.mk.injEq] at H
 obtain ⟨rfl,rfl⟩:=H
 go_enter Try.func40,Try.ntmps40
 go_wp2_with (first|((with_reducible refine gate_callee (f:=65) rfl ?_);refine goesL_ (some 8) rfl rfl Try.func65 (by kernel_rfl) rfl #[.string a0,.string a1] rfl (by (try simp only [List.map_toArray,List.map_cons,List.map_nil]);first|done|rfl|(simp only [List.length_drop,List.length_take];rfl)) ?_;(with_reducible refine (stringslite_CutPrefix.calls a0 a1 t153 t154 _ A3.out).mono ?_);rintro e w' ⟨rfl,⟨nd,rfl⟩⟩;refine ⟨_,rfl,?_⟩))
 go_ret2
 exact ⟨by first|rfl|(simp;done)|(simp [*];done),by repeat (first|exact Drawn0.refl _|apply Drawn0.step)⟩

end Go.Proofs.Ytiplbleghaoehaa.PA
