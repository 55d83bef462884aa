/- The machine side of functions of this seat, written by the session's program myprint.py: for each Go function a Lean function and the proof that the call answers just it. -/
import Derived.Test.YthodcgkhianecaaDoorPAx0
import Derived.Test.YthodcgkhianecaaDoorUp
import Derived.Test.YthodcgkhianecaaDoorPAx5
import Derived.Test.YthodcgkhianecaaDoorPAx6
namespace Go.Proofs.YthodcgkhianecaaDoor.PA
open Go.RowKit Go.Proofs.YthodcgkhianecaaDoorW.PrintWords Go.Proofs.YthodcgkhianecaaDoorW.PrintLast Go.Proofs.YthodcgkhianecaaDoorW.PrintMore
attribute [local go_sem] max2_int min2_int max_two min_two max_three min_three max_four min_four   -- for this text's walks alone
set_option linter.unusedVariables false
set_option linter.unusedSimpArgs false

/-! ### spec_NamedMachine: function 38 -/
mutual
def spec_NamedMachine.l0 : Nat → ByteArray → Int → Option (List Int × List Int × List Int × Bool)
 | 0,_,_ => none
 | k + 1,x0,x4 => if x4 ≤ 5 then (if 0 ≤ x4 then (if (x4 : Int).toNat ≤ 35184372088832 then ((some (List.replicate (x4 : Int).toNat 0 : List Int)).bind fun y189 => ((spec_l1Number.f k x4).bind fun t192 => (if 7 + t192.size ≤ 9223372036854775807 then (if x0.toList = ((⟨#[97,116,108,101,97,115,116]⟩ : ByteArray) ++ t192).toList then (spec_NamedMachine.j1 k x0 x4 y189 (decide (x4 > 0))) else (spec_NamedMachine.j1 k x0 x4 y189 false)) else (none)))) else (none)) else (none)) else (some (([] : List Int),([] : List Int),([] : List Int),false))
def spec_NamedMachine.j1 : Nat → ByteArray → Int → List Int → Bool → Option (List Int × List Int × List Int × Bool)
 | 0,_,_,_,_ => none
 | k + 1,x0,x4,x5,x39 => if x39 = true then (if x5.length < 17592186044416 then ((spec_l4Count.f k (wrap64 (x4 + 1)) false (x5 ++ [1])).bind fun bt196 => (some (bt196.1,bt196.2.1,bt196.2.2,true))) else (none)) else ((spec_l1Number.f k x4).bind fun t205 => (if 4 + t205.size ≤ 9223372036854775807 then (if x0.toList = ((⟨#[106,117,115,116]⟩ : ByteArray) ++ t205).toList then ((some (([1,0] : List Int) : List Int)).bind fun y206 => (if x5.length + y206.length < 17592186044416 then ((spec_l4Count.f k (wrap64 (x4 + 2)) false (x5 ++ y206)).bind fun bt212 => (some (bt212.1,bt212.2.1,bt212.2.2,true))) else (none))) else (spec_NamedMachine.l0 k x0 (wrap64 (x4 + 1)))) else (none)))
end
def spec_NamedMachine.f (k : Nat) (a0 : ByteArray) : Option (List Int × List Int × List Int × Bool):=if a0.toList = ([101,118,101,114,121] : List UInt8) then (some ((([1,1] : List Int)),(([0,1] : List Int)),(([1,0] : List Int)),true)) else (if a0.toList = ([115,111,109,101] : List UInt8) then ((spec_l4Count.f k 2 false (([0,1] : List Int))).bind fun bt156 => (some (bt156.1,bt156.2.1,bt156.2.2,true))) else (if a0.toList = ([110,111] : List UInt8) then ((spec_l4Count.f k 2 false (([1,0] : List Int))).bind fun bt168 => (some (bt168.1,bt168.2.1,bt168.2.2,true))) else (if a0.toList = ([101,118,101,110] : List UInt8) then ((spec_l4Count.f k 2 true (([1,0] : List Int))).bind fun bt180 => (some (bt180.1,bt180.2.1,bt180.2.2,true))) else (spec_NamedMachine.l0 k a0 0))))
theorem spec_NamedMachine.mono_l : ∀ k,(∀ y0 y1,LeO (spec_NamedMachine.l0 k y0 y1) (spec_NamedMachine.l0 (k + 1) y0 y1)) ∧ (∀ y0 y1 y2 y3,LeO (spec_NamedMachine.j1 k y0 y1 y2 y3) (spec_NamedMachine.j1 (k + 1) y0 y1 y2 y3))
 | 0 => ⟨fun _ _ r h => by simp [spec_NamedMachine.l0] at h,fun _ _ _ _ r h => by simp [spec_NamedMachine.j1] at h⟩
 | k + 1 => by
  obtain ⟨ih0,ih1⟩:=spec_NamedMachine.mono_l k
  refine ⟨?_,?_⟩
  ·
   intro y0 y1
   unfold spec_NamedMachine.l0
   repeat' first
   | (with_reducible exact ih0 _ _)
   | (with_reducible exact ih1 _ _ _ _)
   | (with_reducible exact spec_l1Number.mono _ _)
   | (with_reducible exact spec_l4Count.mono _ _ _ _)
   | (with_reducible exact LeO.refl _)
   | (with_reducible exact LeO.none _)
   | (with_reducible refine LeO.ite ?_ ?_)
   | (with_reducible refine LeO.bind ?_ (fun _ => ?_))
   | exact ih0 _ _
   | exact ih1 _ _ _ _
   | exact spec_l1Number.mono _ _
   | exact spec_l4Count.mono _ _ _ _
   | exact LeO.none _
   | refine LeO.ite ?_ ?_
   | refine LeO.bind ?_ (fun _ => ?_)
  ·
   intro y0 y1 y2 y3
   unfold spec_NamedMachine.j1
   repeat' first
   | (with_reducible exact ih0 _ _)
   | (with_reducible exact ih1 _ _ _ _)
   | (with_reducible exact spec_l1Number.mono _ _)
   | (with_reducible exact spec_l4Count.mono _ _ _ _)
   | (with_reducible exact LeO.refl _)
   | (with_reducible exact LeO.none _)
   | (with_reducible refine LeO.ite ?_ ?_)
   | (with_reducible refine LeO.bind ?_ (fun _ => ?_))
   | exact ih0 _ _
   | exact ih1 _ _ _ _
   | exact spec_l1Number.mono _ _
   | exact spec_l4Count.mono _ _ _ _
   | exact LeO.none _
   | refine LeO.ite ?_ ?_
   | refine LeO.bind ?_ (fun _ => ?_)
theorem spec_NamedMachine.mono : ∀ a0 k,LeO (spec_NamedMachine.f k a0) (spec_NamedMachine.f (k + 1) a0):=by
 intro a0 k
 obtain ⟨ih0,ih1⟩:=spec_NamedMachine.mono_l k
 unfold spec_NamedMachine.f
 repeat' first
   | (with_reducible exact ih0 _ _)
   | (with_reducible exact ih1 _ _ _ _)
   | (with_reducible exact spec_l1Number.mono _ _)
   | (with_reducible exact spec_l4Count.mono _ _ _ _)
   | (with_reducible exact LeO.refl _)
   | (with_reducible exact LeO.none _)
   | (with_reducible refine LeO.ite ?_ ?_)
   | (with_reducible refine LeO.bind ?_ (fun _ => ?_))
   | exact ih0 _ _
   | exact ih1 _ _ _ _
   | exact spec_l1Number.mono _ _
   | exact spec_l4Count.mono _ _ _ _
   | exact LeO.none _
   | refine LeO.ite ?_ ?_
   | refine LeO.bind ?_ (fun _ => ?_)
set_option maxHeartbeats 8000000 in
set_option maxRecDepth 100000 in
theorem spec_NamedMachine.calls (k : Nat) (a0 : ByteArray) (r1 : List Int) (r2 : List Int) (r3 : List Int) (r4 : Bool) (w : World) (h : spec_NamedMachine.f k a0 = some (r1,r2,r3,r4)) :
  Calls Tryd.prog 38 #[.string a0] w fun e w' => ∃ v0_ v1_ v2_ : Value,e = .returned (.tuple #[.agg #[v0_,v1_,v2_],.bool r4]) ∧ Kd.R (Kd.int .i64) 3 w' w.heap.size (fun k_ => some k_ ≠ (v1_ : Value).ownBlock ∧ some k_ ≠ (v2_ : Value).ownBlock) v0_ r1 ∧ Kd.R (Kd.int .i64) 3 w' w.heap.size (fun k_ => some k_ ≠ (v0_ : Value).ownBlock ∧ some k_ ≠ (v2_ : Value).ownBlock) v1_ r2 ∧ Kd.R (Kd.int .i64) 3 w' w.heap.size (fun k_ => some k_ ≠ (v0_ : Value).ownBlock ∧ some k_ ≠ (v1_ : Value).ownBlock) v2_ r3 ∧ Below w.heap.size w w':=by
 have hu25:=Tryd.underlying25;have HB:=Aside0.mk (Below.refl w.heap.size w)
 have H : (if a0.toList = ([101,118,101,114,121] : List UInt8) then (some ((([1,1] : List Int)),(([0,1] : List Int)),(([1,0] : List Int)),true)) else (if a0.toList = ([115,111,109,101] : List UInt8) then ((spec_l4Count.f k 2 false (([0,1] : List Int))).bind fun bt156 => (some (bt156.1,bt156.2.1,bt156.2.2,true))) else (if a0.toList = ([110,111] : List UInt8) then ((spec_l4Count.f k 2 false (([1,0] : List Int))).bind fun bt168 => (some (bt168.1,bt168.2.1,bt168.2.2,true))) else (if a0.toList = ([101,118,101,110] : List UInt8) then ((spec_l4Count.f k 2 true (([1,0] : List Int))).bind fun bt180 => (some (bt180.1,bt180.2.1,bt180.2.2,true))) else (spec_NamedMachine.l0 k a0 0))))) = some (r1,r2,r3,r4):=h;clear h
 by_cases c2 : a0.toList = ([101,118,101,114,121] : List UInt8)
 ·
  rw [if_pos c2] at H
  have c2b0 : (a0.toList == ([101,118,101,114,121] : List UInt8)) = true:=beq_iff_eq.mpr c2
  have c2b1 : (a0.toList != ([101,118,101,114,121] : List UInt8)) = false:=bne_eq_false_iff_eq.mpr c2;clear c2
  obtain ⟨y144,hy144⟩ : ∃ y_ : List Int,y_ = (([1,1] : List Int)):=⟨_,rfl⟩
  replace H : (some (y144,(([0,1] : List Int)),(([1,0] : List Int)),true)) = some (r1,r2,r3,r4):=by first|(rw [hy144];with_reducible exact H)|(have H2_:=(Option.bind_some _ _).symm.trans H;rw [hy144];with_reducible exact H2_)|(have H2_:=(Option.bind_some _ _).symm.trans H;with_reducible exact H2_)|with_reducible exact H|(rw [hy144];exact H)|exact H
  have Ny144:=Aside0.mk hy144;clear hy144
  obtain ⟨y147,hy147⟩ : ∃ y_ : List Int,y_ = (([0,1] : List Int)):=⟨_,rfl⟩
  replace H : (some (y144,y147,(([1,0] : List Int)),true)) = some (r1,r2,r3,r4):=by first|(rw [hy147];with_reducible exact H)|(have H2_:=(Option.bind_some _ _).symm.trans H;rw [hy147];with_reducible exact H2_)|(have H2_:=(Option.bind_some _ _).symm.trans H;with_reducible exact H2_)|with_reducible exact H|(rw [hy147];exact H)|exact H
  have Ny147:=Aside0.mk hy147;clear hy147
  obtain ⟨y150,hy150⟩ : ∃ y_ : List Int,y_ = (([1,0] : List Int)):=⟨_,rfl⟩
  replace H : (some (y144,y147,y150,true)) = some (r1,r2,r3,r4):=by first|(rw [hy150];with_reducible exact H)|(have H2_:=(Option.bind_some _ _).symm.trans H;rw [hy150];with_reducible exact H2_)|(have H2_:=(Option.bind_some _ _).symm.trans H;with_reducible exact H2_)|with_reducible exact H|(rw [hy150];exact H)|exact H
  have Ny150:=Aside0.mk hy150;clear hy150
  simp only [Option.some.injEq,Prod.mk.injEq] at H
  obtain ⟨rfl,rfl,rfl,rfl⟩:=H
  go_enter Tryd.func38,Tryd.ntmps38
  go_wp2_with (first|((with_reducible refine gate_dst (N:=2) rfl ?_);refine box_event ?hg (N:=2) ?hd (cs:=#[.slice none 0 0,.slice none 0 0,.slice none 0 0]) (t:=25) ?hr ?_;(case hd => rfl);(case hg => rfl);(case hr => first|(go_simp;done)|(go_simp;rfl));intro gb143 hg w3 hbox hb;have n0_:=Aside0.mk (below_step (belU HB.out) hb);have n1_:=Aside0.mk (hbox);have n2_:=Aside0.mk ((by rw [hg];exact (below_size (belU HB.out)) : w.heap.size ≤ gb143));have n3_:=Aside0.mk ((by rw [hg];exact (below_size (belU HB.out)) : w.heap.size ≤ gb143));clear HB;have HB:=n0_;have BK143:=n1_;have GW143:=n2_;have GE143:=n3_;clear n0_ n1_ n2_ n3_ hb hbox hg)|((with_reducible refine gate_dst (N:=9) rfl ?_);refine Kd.R_lit (Kd.int .i64) _ 3 ?hg (N:=9) ?hd (xs:=([1,1] : List Int)) (inner:=[.int .i64 1,.int .i64 1]) (ok:=fun _ => True) (okp:=fun _ => True) ?hr ?hp (fun _ hk => hk) trivial (Below.refl _ _) (Nat.le_refl _) (by simp) ?_;(case hd => rfl);(case hg => rfl);(case hr => first|(go_simp;done)|(go_simp;rfl));(case hp => exact (Reps.one (show Kd.M (Kd.int .i64) _ _ _ 1 [.int .i64 1] from rfl) (Reps.one (show Kd.M (Kd.int .i64) _ _ _ 1 [.int .i64 1] from rfl) (Reps.none _ _))));intro v145 w4 ho5 hb hg_ hnew_;clear hg_ hnew_;(first|rw [← Ny144.out] at ho5|(simp only [Int.reduceToNat] at ho5;rw [← Ny144.out] at ho5));have n0_:=Aside0.mk (Kd.R_lower ho5 (below_size (by repeat (first|(with_reducible first|exact HB.out|apply below_alloc|apply pw_below_drewN|apply below_drew1|refine below_set ?_ GE143.out)|exact HB.out))));have n1_:=Aside0.mk (blk_below (g:=gb143) (o:=.cells #[.slice none 0 0,.slice none 0 0,.slice none 0 0] 25 (0,0)) (blkU BK143.out) hb);have n2_:=Aside0.mk (below_step (by repeat (first|(with_reducible first|exact HB.out|apply below_alloc|apply pw_below_drewN|apply below_drew1|refine below_set ?_ GE143.out)|exact HB.out)) hb);clear BK143 HB;have HO146:=n0_;have BK143:=n1_;have HB:=n2_;clear n0_ n1_ n2_ hb ho5)|((with_reducible refine gate_dst (N:=10) rfl ?_);refine Kd.R_lit (Kd.int .i64) _ 3 ?hg (N:=10) ?hd (xs:=([0,1] : List Int)) (inner:=[.int .i64 0,.int .i64 1]) (ok:=fun _ => True) (okp:=fun _ => True) ?hr ?hp (fun _ hk => hk) trivial (Below.refl _ _) (Nat.le_refl _) (by simp) ?_;(case hd => rfl);(case hg => rfl);(case hr => first|(go_simp;done)|(go_simp;rfl));(case hp => exact (Reps.one (show Kd.M (Kd.int .i64) _ _ _ 0 [.int .i64 0] from rfl) (Reps.one (show Kd.M (Kd.int .i64) _ _ _ 1 [.int .i64 1] from rfl) (Reps.none _ _))));intro v148 w6 ho7 hb hg_ hnew_;clear hg_ hnew_;(first|rw [← Ny147.out] at ho7|(simp only [Int.reduceToNat] at ho7;rw [← Ny147.out] at ho7));have n0_:=Aside0.mk (Kd.R_elder' (rU HO146.out) (Kd.R_base ho7) hb);have n1_:=Aside0.mk (Kd.R_lower (Kd.R_new' ho7 (Kd.R_lt (rU HO146.out))) (below_size (by repeat (first|(with_reducible first|exact HB.out|apply below_alloc|apply pw_below_drewN|apply below_drew1|refine below_set ?_ GE143.out)|exact HB.out))));have n2_:=Aside0.mk (blk_below (g:=gb143) (o:=.cells #[.slice none 0 0,.slice none 0 0,.slice none 0 0] 25 (0,0)) (blkU BK143.out) hb);have n3_:=Aside0.mk (below_step (by repeat (first|(with_reducible first|exact HB.out|apply below_alloc|apply pw_below_drewN|apply below_drew1|refine below_set ?_ GE143.out)|exact HB.out)) hb);clear HO146 BK143 HB;have HO146:=n0_;have HO149:=n1_;have BK143:=n2_;have HB:=n3_;clear n0_ n1_ n2_ n3_ hb ho7)|((with_reducible refine gate_dst (N:=11) rfl ?_);refine Kd.R_lit (Kd.int .i64) _ 3 ?hg (N:=11) ?hd (xs:=([1,0] : List Int)) (inner:=[.int .i64 1,.int .i64 0]) (ok:=fun _ => True) (okp:=fun _ => True) ?hr ?hp (fun _ hk => hk) trivial (Below.refl _ _) (Nat.le_refl _) (by simp) ?_;(case hd => rfl);(case hg => rfl);(case hr => first|(go_simp;done)|(go_simp;rfl));(case hp => exact (Reps.one (show Kd.M (Kd.int .i64) _ _ _ 1 [.int .i64 1] from rfl) (Reps.one (show Kd.M (Kd.int .i64) _ _ _ 0 [.int .i64 0] from rfl) (Reps.none _ _))));intro v151 w8 ho9 hb hg_ hnew_;clear hg_ hnew_;(first|rw [← Ny150.out] at ho9|(simp only [Int.reduceToNat] at ho9;rw [← Ny150.out] at ho9));have n0_:=Aside0.mk (Kd.R_elder' (rU HO146.out) (Kd.R_base ho9) hb);have n1_:=Aside0.mk (Kd.R_elder' (rU HO149.out) (Kd.R_base ho9) hb);have n2_:=Aside0.mk (Kd.R_lower (Kd.R_new' (Kd.R_new' ho9 (Kd.R_lt (rU HO146.out))) (Kd.R_lt (rU HO149.out))) (below_size (by repeat (first|(with_reducible first|exact HB.out|apply below_alloc|apply pw_below_drewN|apply below_drew1|refine below_set ?_ GE143.out)|exact HB.out))));have n3_:=Aside0.mk (blk_below (g:=gb143) (o:=.cells #[.slice none 0 0,.slice none 0 0,.slice none 0 0] 25 (0,0)) (blkU BK143.out) hb);have n4_:=Aside0.mk (below_step (by repeat (first|(with_reducible first|exact HB.out|apply below_alloc|apply pw_below_drewN|apply below_drew1|refine below_set ?_ GE143.out)|exact HB.out)) hb);clear HO146 HO149 BK143 HB;have HO146:=n0_;have HO149:=n1_;have HO152:=n2_;have BK143:=n3_;have HB:=n4_;clear n0_ n1_ n2_ n3_ n4_ hb ho9;obtain ⟨Ao10,co10,eo10⟩:=Kd.R_slice HO152.out;subst eo10;obtain ⟨Ao11,co11,eo11⟩:=Kd.R_slice HO149.out;subst eo11;obtain ⟨Ao12,co12,eo12⟩:=Kd.R_slice HO146.out;subst eo12;have hcz13_0 : w8.cell? ⟨gb143,0,none⟩ = some (.slice none 0 0):=(blk_cell BK143.out 0).trans rfl;have hcz13_1 : w8.cell? ⟨gb143,1,none⟩ = some (.slice none 0 0):=(blk_cell BK143.out 1).trans rfl;have hcz13_2 : w8.cell? ⟨gb143,2,none⟩ = some (.slice none 0 0):=(blk_cell BK143.out 2).trans rfl;have hfz13_0:=blk_frozen BK143.out 0;have hfz13_1:=blk_frozen BK143.out 1;have hfz13_2:=blk_frozen BK143.out 2))
  refine bodyPost_ret (results_ct rfl _ _ gb143 25 #[.slice Ao12 y144.length co12,.slice Ao11 y147.length co11,.slice Ao10 y150.length co10] (0,0) _ rfl (by (with_reducible repeat (first|refine blk_drewN ?_ _|refine blk_drew ?_|refine blk_alloc ?_ _));refine blk_put (cs:=#[.slice Ao12 y144.length co12,.slice Ao11 y147.length co11,.slice none 0 0]) ?_ 2 _ rfl;(with_reducible repeat (first|refine blk_drewN ?_ _|refine blk_drew ?_|refine blk_alloc ?_ _));refine blk_put (cs:=#[.slice Ao12 y144.length co12,.slice none 0 0,.slice none 0 0]) ?_ 1 _ rfl;(with_reducible repeat (first|refine blk_drewN ?_ _|refine blk_drew ?_|refine blk_alloc ?_ _));refine blk_put (cs:=#[.slice none 0 0,.slice none 0 0,.slice none 0 0]) ?_ 0 _ rfl;(with_reducible repeat (first|refine blk_drewN ?_ _|refine blk_drew ?_|refine blk_alloc ?_ _));exact BK143.out) Tryd.underlying25 rfl (by kernel_rfl)) rfl ?_
  exact ⟨_,_,_,by first|rfl|(simp [errW_none,errW_some] <;> rfl)|(simp [*,errW_none,errW_some] <;> rfl),by (with_reducible repeat (first|apply Kd.R_alloc|apply Kd.R_drewN|apply Kd.R_drew));exact Kd.R_mono (Kd.R_far (p:=⟨gb143,2,none⟩) (Kd.R_far (p:=⟨gb143,1,none⟩) (Kd.R_far (p:=⟨gb143,0,none⟩) (Kd.R_types HO146.out BK143.out (by decide)) (fun _ hk => hk.2) (.slice Ao12 y144.length co12)) (fun _ hk => hk.2) (.slice Ao11 y147.length co11)) (fun _ hk => hk.2) (.slice Ao10 y150.length co10)) (fun _ hk => ⟨hk.1.1.2,hk.1.2⟩),by (with_reducible repeat (first|apply Kd.R_alloc|apply Kd.R_drewN|apply Kd.R_drew));exact Kd.R_mono (Kd.R_far (p:=⟨gb143,2,none⟩) (Kd.R_far (p:=⟨gb143,1,none⟩) (Kd.R_far (p:=⟨gb143,0,none⟩) (Kd.R_types HO149.out BK143.out (by decide)) (fun _ hk => hk.2) (.slice Ao12 y144.length co12)) (fun _ hk => hk.2) (.slice Ao11 y147.length co11)) (fun _ hk => hk.2) (.slice Ao10 y150.length co10)) (fun _ hk => ⟨hk.1.1.2,hk.1.2⟩),by (with_reducible repeat (first|apply Kd.R_alloc|apply Kd.R_drewN|apply Kd.R_drew));exact Kd.R_mono (Kd.R_far (p:=⟨gb143,2,none⟩) (Kd.R_far (p:=⟨gb143,1,none⟩) (Kd.R_far (p:=⟨gb143,0,none⟩) (Kd.R_types HO152.out BK143.out (by decide)) (fun _ hk => hk.2) (.slice Ao12 y144.length co12)) (fun _ hk => hk.2) (.slice Ao11 y147.length co11)) (fun _ hk => hk.2) (.slice Ao10 y150.length co10)) (fun _ hk => ⟨hk.1.1.2,hk.1.2⟩),by repeat (first|(with_reducible first|exact HB.out|apply below_alloc|apply pw_below_drewN|apply below_drew1|refine below_set ?_ GE143.out)|exact HB.out)⟩
 ·
  rw [if_neg c2] at H
  have c2b0 : (a0.toList == ([101,118,101,114,121] : List UInt8)) = false:=beq_eq_false_iff_ne.mpr c2
  have c2b1 : (a0.toList != ([101,118,101,114,121] : List UInt8)) = true:=bne_iff_ne.mpr c2
  by_cases c14 : a0.toList = ([115,111,109,101] : List UInt8)
  ·
   rw [if_pos c14] at H
   have c14b0 : (a0.toList == ([115,111,109,101] : List UInt8)) = true:=beq_iff_eq.mpr c14
   have c14b1 : (a0.toList != ([115,111,109,101] : List UInt8)) = false:=bne_eq_false_iff_eq.mpr c14;clear c14
   obtain ⟨y153,hy153⟩ : ∃ y_ : List Int,y_ = (([0,1] : List Int)):=⟨_,rfl⟩
   replace H : ((spec_l4Count.f k 2 false y153).bind fun bt156 => (some (bt156.1,bt156.2.1,bt156.2.2,true))) = some (r1,r2,r3,r4):=by first|(rw [hy153];with_reducible exact H)|(have H2_:=(Option.bind_some _ _).symm.trans H;rw [hy153];with_reducible exact H2_)|(have H2_:=(Option.bind_some _ _).symm.trans H;with_reducible exact H2_)|with_reducible exact H|(rw [hy153];exact H)|exact H
   have Ny153:=Aside0.mk hy153;clear hy153
   replace H:=Option.bind_eq_some_iff.mp H
   obtain ⟨⟨t156,t159,t162⟩,A150,H⟩:=H
   replace H : (some (t156,t159,t162,true)) = some (r1,r2,r3,r4):=H
   have A15:=Aside0.mk A150;clear A150
   simp only [Option.some.injEq,Prod.mk.injEq] at H
   obtain ⟨rfl,rfl,rfl,rfl⟩:=H
   go_enter Tryd.func38,Tryd.ntmps38
   go_wp2_with (first|((with_reducible refine gate_dst (N:=2) rfl ?_);refine box_event ?hg (N:=2) ?hd (cs:=#[.slice none 0 0,.slice none 0 0,.slice none 0 0]) (t:=25) ?hr ?_;(case hd => rfl);(case hg => rfl);(case hr => first|(go_simp;done)|(go_simp;rfl));intro gb143 hg w16 hbox hb;have n0_:=Aside0.mk (below_step (belU HB.out) hb);have n1_:=Aside0.mk (hbox);have n2_:=Aside0.mk ((by rw [hg];exact (below_size (belU HB.out)) : w.heap.size ≤ gb143));have n3_:=Aside0.mk ((by rw [hg];exact (below_size (belU HB.out)) : w.heap.size ≤ gb143));clear HB;have HB:=n0_;have BK143:=n1_;have GW143:=n2_;have GE143:=n3_;clear n0_ n1_ n2_ n3_ hb hbox hg)|((with_reducible refine gate_dst (N:=15) rfl ?_);refine Kd.R_lit (Kd.int .i64) _ 3 ?hg (N:=15) ?hd (xs:=([0,1] : List Int)) (inner:=[.int .i64 0,.int .i64 1]) (ok:=fun _ => True) (okp:=fun _ => True) ?hr ?hp (fun _ hk => hk) trivial (Below.refl _ _) (Nat.le_refl _) (by simp) ?_;(case hd => rfl);(case hg => rfl);(case hr => first|(go_simp;done)|(go_simp;rfl));(case hp => exact (Reps.one (show Kd.M (Kd.int .i64) _ _ _ 0 [.int .i64 0] from rfl) (Reps.one (show Kd.M (Kd.int .i64) _ _ _ 1 [.int .i64 1] from rfl) (Reps.none _ _))));intro v154 w17 ho18 hb hg_ hnew_;clear hg_ hnew_;(first|rw [← Ny153.out] at ho18|(simp only [Int.reduceToNat] at ho18;rw [← Ny153.out] at ho18));have n0_:=Aside0.mk (Kd.R_lower ho18 (below_size (by repeat (first|(with_reducible first|exact HB.out|apply below_alloc|apply pw_below_drewN|apply below_drew1|refine below_set ?_ GE143.out)|exact HB.out))));have n1_:=Aside0.mk (blk_below (g:=gb143) (o:=.cells #[.slice none 0 0,.slice none 0 0,.slice none 0 0] 25 (0,0)) (blkU BK143.out) hb);have n2_:=Aside0.mk (below_step (by repeat (first|(with_reducible first|exact HB.out|apply below_alloc|apply pw_below_drewN|apply below_drew1|refine below_set ?_ GE143.out)|exact HB.out)) hb);clear BK143 HB;have HO155:=n0_;have BK143:=n1_;have HB:=n2_;clear n0_ n1_ n2_ hb ho18;obtain ⟨Ao19,co19,eo19⟩:=Kd.R_slice HO155.out;subst eo19)|((with_reducible refine gate_callee (f:=37) rfl ?_);refine goesL_ (some 16) rfl rfl Tryd.func37 (by kernel_rfl) rfl #[.int .i64 2,.bool false,.slice Ao19 y153.length co19] rfl (by (try simp only [List.map_toArray,List.map_cons,List.map_nil]);first|done|rfl|(simp only [List.length_drop,List.length_take];rfl)) ?_;(with_reducible refine (spec_l4Count.calls k 2 false _ _ y153 t156 t159 t162 _ _ _ (rU HO155.out) A15.out).mono ?_);rintro e w20 ⟨v157,v160,v163,rfl,ho0,ho1,ho2,hb⟩;refine ⟨_,rfl,?_⟩;have n0_:=Aside0.mk (Kd.R_told (Kd.R_told (Kd.R_old (rU HO155.out) hb) (Kd.R_base ho0)) (Kd.R_base ho1));have n1_:=Aside0.mk (Kd.R_lower (Kd.R_new' ho0 (Kd.R_lt (rU HO155.out))) (below_size (by repeat (first|(with_reducible first|exact HB.out|apply below_alloc|apply pw_below_drewN|apply below_drew1|refine below_set ?_ GE143.out)|exact HB.out))));have n2_:=Aside0.mk (Kd.R_lower (Kd.R_new' ho1 (Kd.R_lt (rU HO155.out))) (below_size (by repeat (first|(with_reducible first|exact HB.out|apply below_alloc|apply pw_below_drewN|apply below_drew1|refine below_set ?_ GE143.out)|exact HB.out))));have n3_:=Aside0.mk (Kd.R_mono (ok':=fun k_ => (some k_ ≠ Value.ownBlock v157 ∧ some k_ ≠ Value.ownBlock v160) ∧ True) ho2 (fun _ h_ => ⟨h_,trivial⟩));have n4_:=Aside0.mk (blk_below (g:=gb143) (o:=.cells #[.slice none 0 0,.slice none 0 0,.slice none 0 0] 25 (0,0)) (blkU BK143.out) hb);have n5_:=Aside0.mk (below_step (by repeat (first|(with_reducible first|exact HB.out|apply below_alloc|apply pw_below_drewN|apply below_drew1|refine below_set ?_ GE143.out)|exact HB.out)) hb);clear HO155 BK143 HB;have HO155:=n0_;have HO158:=n1_;have HO161:=n2_;have HO164:=n3_;have BK143:=n4_;have HB:=n5_;clear n0_ n1_ n2_ n3_ n4_ n5_;(try clear hb);(try clear hb2);(try clear hk);(try clear hi);(try clear ho0);(try clear ho1);(try clear ho2);obtain ⟨Ao21,co21,eo21⟩:=Kd.R_slice HO158.out;subst eo21;have hcz22_0 : w20.cell? ⟨gb143,0,none⟩ = some (.slice none 0 0):=(blk_cell BK143.out 0).trans rfl;have hcz22_1 : w20.cell? ⟨gb143,1,none⟩ = some (.slice none 0 0):=(blk_cell BK143.out 1).trans rfl;have hcz22_2 : w20.cell? ⟨gb143,2,none⟩ = some (.slice none 0 0):=(blk_cell BK143.out 2).trans rfl;have hfz22_0:=blk_frozen BK143.out 0;have hfz22_1:=blk_frozen BK143.out 1;have hfz22_2:=blk_frozen BK143.out 2;obtain ⟨Ao23,co23,eo23⟩:=Kd.R_slice HO161.out;subst eo23;obtain ⟨Ao24,co24,eo24⟩:=Kd.R_slice HO164.out;subst eo24))
   refine bodyPost_ret (results_ct rfl _ _ gb143 25 #[.slice Ao21 t156.length co21,.slice Ao23 t159.length co23,.slice Ao24 t162.length co24] (0,0) _ rfl (by (with_reducible repeat (first|refine blk_drewN ?_ _|refine blk_drew ?_|refine blk_alloc ?_ _));refine blk_put (cs:=#[.slice Ao21 t156.length co21,.slice Ao23 t159.length co23,.slice none 0 0]) ?_ 2 _ rfl;(with_reducible repeat (first|refine blk_drewN ?_ _|refine blk_drew ?_|refine blk_alloc ?_ _));refine blk_put (cs:=#[.slice Ao21 t156.length co21,.slice none 0 0,.slice none 0 0]) ?_ 1 _ rfl;(with_reducible repeat (first|refine blk_drewN ?_ _|refine blk_drew ?_|refine blk_alloc ?_ _));refine blk_put (cs:=#[.slice none 0 0,.slice none 0 0,.slice none 0 0]) ?_ 0 _ rfl;(with_reducible repeat (first|refine blk_drewN ?_ _|refine blk_drew ?_|refine blk_alloc ?_ _));exact BK143.out) Tryd.underlying25 rfl (by kernel_rfl)) rfl ?_
   exact ⟨_,_,_,by first|rfl|(simp [errW_none,errW_some] <;> rfl)|(simp [*,errW_none,errW_some] <;> rfl),by (with_reducible repeat (first|apply Kd.R_alloc|apply Kd.R_drewN|apply Kd.R_drew));exact Kd.R_mono (Kd.R_far (p:=⟨gb143,2,none⟩) (Kd.R_far (p:=⟨gb143,1,none⟩) (Kd.R_far (p:=⟨gb143,0,none⟩) (Kd.R_types HO158.out BK143.out (by decide)) (fun _ hk => hk.2) (.slice Ao21 t156.length co21)) (fun _ hk => hk.2) (.slice Ao23 t159.length co23)) (fun _ hk => hk.2) (.slice Ao24 t162.length co24)) (fun _ hk => ⟨hk.1.1.1,hk.1.1.2⟩),by (with_reducible repeat (first|apply Kd.R_alloc|apply Kd.R_drewN|apply Kd.R_drew));exact Kd.R_mono (Kd.R_far (p:=⟨gb143,2,none⟩) (Kd.R_far (p:=⟨gb143,1,none⟩) (Kd.R_far (p:=⟨gb143,0,none⟩) (Kd.R_types HO161.out BK143.out (by decide)) (fun _ hk => hk.2) (.slice Ao21 t156.length co21)) (fun _ hk => hk.2) (.slice Ao23 t159.length co23)) (fun _ hk => hk.2) (.slice Ao24 t162.length co24)) (fun _ hk => ⟨hk.1.1.1,hk.1.1.2⟩),by (with_reducible repeat (first|apply Kd.R_alloc|apply Kd.R_drewN|apply Kd.R_drew));exact Kd.R_mono (Kd.R_far (p:=⟨gb143,2,none⟩) (Kd.R_far (p:=⟨gb143,1,none⟩) (Kd.R_far (p:=⟨gb143,0,none⟩) (Kd.R_types HO164.out BK143.out (by decide)) (fun _ hk => hk.2) (.slice Ao21 t156.length co21)) (fun _ hk => hk.2) (.slice Ao23 t159.length co23)) (fun _ hk => hk.2) (.slice Ao24 t162.length co24)) (fun _ hk => ⟨hk.1.1.1,hk.1.1.2⟩),by repeat (first|(with_reducible first|exact HB.out|apply below_alloc|apply pw_below_drewN|apply below_drew1|refine below_set ?_ GE143.out)|exact HB.out)⟩
  ·
   rw [if_neg c14] at H
   have c14b0 : (a0.toList == ([115,111,109,101] : List UInt8)) = false:=beq_eq_false_iff_ne.mpr c14
   have c14b1 : (a0.toList != ([115,111,109,101] : List UInt8)) = true:=bne_iff_ne.mpr c14
   by_cases c25 : a0.toList = ([110,111] : List UInt8)
   ·
    rw [if_pos c25] at H
    have c25b0 : (a0.toList == ([110,111] : List UInt8)) = true:=beq_iff_eq.mpr c25
    have c25b1 : (a0.toList != ([110,111] : List UInt8)) = false:=bne_eq_false_iff_eq.mpr c25;clear c25
    obtain ⟨y165,hy165⟩ : ∃ y_ : List Int,y_ = (([1,0] : List Int)):=⟨_,rfl⟩
    replace H : ((spec_l4Count.f k 2 false y165).bind fun bt168 => (some (bt168.1,bt168.2.1,bt168.2.2,true))) = some (r1,r2,r3,r4):=by first|(rw [hy165];with_reducible exact H)|(have H2_:=(Option.bind_some _ _).symm.trans H;rw [hy165];with_reducible exact H2_)|(have H2_:=(Option.bind_some _ _).symm.trans H;with_reducible exact H2_)|with_reducible exact H|(rw [hy165];exact H)|exact H
    have Ny165:=Aside0.mk hy165;clear hy165
    replace H:=Option.bind_eq_some_iff.mp H
    obtain ⟨⟨t168,t171,t174⟩,A260,H⟩:=H
    replace H : (some (t168,t171,t174,true)) = some (r1,r2,r3,r4):=H
    have A26:=Aside0.mk A260;clear A260
    simp only [Option.some.injEq,Prod.mk.injEq] at H
    obtain ⟨rfl,rfl,rfl,rfl⟩:=H
    go_enter Tryd.func38,Tryd.ntmps38
    go_wp2_with (first|((with_reducible refine gate_dst (N:=2) rfl ?_);refine box_event ?hg (N:=2) ?hd (cs:=#[.slice none 0 0,.slice none 0 0,.slice none 0 0]) (t:=25) ?hr ?_;(case hd => rfl);(case hg => rfl);(case hr => first|(go_simp;done)|(go_simp;rfl));intro gb143 hg w27 hbox hb;have n0_:=Aside0.mk (below_step (belU HB.out) hb);have n1_:=Aside0.mk (hbox);have n2_:=Aside0.mk ((by rw [hg];exact (below_size (belU HB.out)) : w.heap.size ≤ gb143));have n3_:=Aside0.mk ((by rw [hg];exact (below_size (belU HB.out)) : w.heap.size ≤ gb143));clear HB;have HB:=n0_;have BK143:=n1_;have GW143:=n2_;have GE143:=n3_;clear n0_ n1_ n2_ n3_ hb hbox hg)|((with_reducible refine gate_dst (N:=19) rfl ?_);refine Kd.R_lit (Kd.int .i64) _ 3 ?hg (N:=19) ?hd (xs:=([1,0] : List Int)) (inner:=[.int .i64 1,.int .i64 0]) (ok:=fun _ => True) (okp:=fun _ => True) ?hr ?hp (fun _ hk => hk) trivial (Below.refl _ _) (Nat.le_refl _) (by simp) ?_;(case hd => rfl);(case hg => rfl);(case hr => first|(go_simp;done)|(go_simp;rfl));(case hp => exact (Reps.one (show Kd.M (Kd.int .i64) _ _ _ 1 [.int .i64 1] from rfl) (Reps.one (show Kd.M (Kd.int .i64) _ _ _ 0 [.int .i64 0] from rfl) (Reps.none _ _))));intro v166 w28 ho29 hb hg_ hnew_;clear hg_ hnew_;(first|rw [← Ny165.out] at ho29|(simp only [Int.reduceToNat] at ho29;rw [← Ny165.out] at ho29));have n0_:=Aside0.mk (Kd.R_lower ho29 (below_size (by repeat (first|(with_reducible first|exact HB.out|apply below_alloc|apply pw_below_drewN|apply below_drew1|refine below_set ?_ GE143.out)|exact HB.out))));have n1_:=Aside0.mk (blk_below (g:=gb143) (o:=.cells #[.slice none 0 0,.slice none 0 0,.slice none 0 0] 25 (0,0)) (blkU BK143.out) hb);have n2_:=Aside0.mk (below_step (by repeat (first|(with_reducible first|exact HB.out|apply below_alloc|apply pw_below_drewN|apply below_drew1|refine below_set ?_ GE143.out)|exact HB.out)) hb);clear BK143 HB;have HO167:=n0_;have BK143:=n1_;have HB:=n2_;clear n0_ n1_ n2_ hb ho29;obtain ⟨Ao30,co30,eo30⟩:=Kd.R_slice HO167.out;subst eo30)|((with_reducible refine gate_callee (f:=37) rfl ?_);refine goesL_ (some 20) rfl rfl Tryd.func37 (by kernel_rfl) rfl #[.int .i64 2,.bool false,.slice Ao30 y165.length co30] rfl (by (try simp only [List.map_toArray,List.map_cons,List.map_nil]);first|done|rfl|(simp only [List.length_drop,List.length_take];rfl)) ?_;(with_reducible refine (spec_l4Count.calls k 2 false _ _ y165 t168 t171 t174 _ _ _ (rU HO167.out) A26.out).mono ?_);rintro e w31 ⟨v169,v172,v175,rfl,ho0,ho1,ho2,hb⟩;refine ⟨_,rfl,?_⟩;have n0_:=Aside0.mk (Kd.R_told (Kd.R_told (Kd.R_old (rU HO167.out) hb) (Kd.R_base ho0)) (Kd.R_base ho1));have n1_:=Aside0.mk (Kd.R_lower (Kd.R_new' ho0 (Kd.R_lt (rU HO167.out))) (below_size (by repeat (first|(with_reducible first|exact HB.out|apply below_alloc|apply pw_below_drewN|apply below_drew1|refine below_set ?_ GE143.out)|exact HB.out))));have n2_:=Aside0.mk (Kd.R_lower (Kd.R_new' ho1 (Kd.R_lt (rU HO167.out))) (below_size (by repeat (first|(with_reducible first|exact HB.out|apply below_alloc|apply pw_below_drewN|apply below_drew1|refine below_set ?_ GE143.out)|exact HB.out))));have n3_:=Aside0.mk (Kd.R_mono (ok':=fun k_ => (some k_ ≠ Value.ownBlock v169 ∧ some k_ ≠ Value.ownBlock v172) ∧ True) ho2 (fun _ h_ => ⟨h_,trivial⟩));have n4_:=Aside0.mk (blk_below (g:=gb143) (o:=.cells #[.slice none 0 0,.slice none 0 0,.slice none 0 0] 25 (0,0)) (blkU BK143.out) hb);have n5_:=Aside0.mk (below_step (by repeat (first|(with_reducible first|exact HB.out|apply below_alloc|apply pw_below_drewN|apply below_drew1|refine below_set ?_ GE143.out)|exact HB.out)) hb);clear HO167 BK143 HB;have HO167:=n0_;have HO170:=n1_;have HO173:=n2_;have HO176:=n3_;have BK143:=n4_;have HB:=n5_;clear n0_ n1_ n2_ n3_ n4_ n5_;(try clear hb);(try clear hb2);(try clear hk);(try clear hi);(try clear ho0);(try clear ho1);(try clear ho2);obtain ⟨Ao32,co32,eo32⟩:=Kd.R_slice HO170.out;subst eo32;have hcz33_0 : w31.cell? ⟨gb143,0,none⟩ = some (.slice none 0 0):=(blk_cell BK143.out 0).trans rfl;have hcz33_1 : w31.cell? ⟨gb143,1,none⟩ = some (.slice none 0 0):=(blk_cell BK143.out 1).trans rfl;have hcz33_2 : w31.cell? ⟨gb143,2,none⟩ = some (.slice none 0 0):=(blk_cell BK143.out 2).trans rfl;have hfz33_0:=blk_frozen BK143.out 0;have hfz33_1:=blk_frozen BK143.out 1;have hfz33_2:=blk_frozen BK143.out 2;obtain ⟨Ao34,co34,eo34⟩:=Kd.R_slice HO173.out;subst eo34;obtain ⟨Ao35,co35,eo35⟩:=Kd.R_slice HO176.out;subst eo35))
    refine bodyPost_ret (results_ct rfl _ _ gb143 25 #[.slice Ao32 t168.length co32,.slice Ao34 t171.length co34,.slice Ao35 t174.length co35] (0,0) _ rfl (by (with_reducible repeat (first|refine blk_drewN ?_ _|refine blk_drew ?_|refine blk_alloc ?_ _));refine blk_put (cs:=#[.slice Ao32 t168.length co32,.slice Ao34 t171.length co34,.slice none 0 0]) ?_ 2 _ rfl;(with_reducible repeat (first|refine blk_drewN ?_ _|refine blk_drew ?_|refine blk_alloc ?_ _));refine blk_put (cs:=#[.slice Ao32 t168.length co32,.slice none 0 0,.slice none 0 0]) ?_ 1 _ rfl;(with_reducible repeat (first|refine blk_drewN ?_ _|refine blk_drew ?_|refine blk_alloc ?_ _));refine blk_put (cs:=#[.slice none 0 0,.slice none 0 0,.slice none 0 0]) ?_ 0 _ rfl;(with_reducible repeat (first|refine blk_drewN ?_ _|refine blk_drew ?_|refine blk_alloc ?_ _));exact BK143.out) Tryd.underlying25 rfl (by kernel_rfl)) rfl ?_
    exact ⟨_,_,_,by first|rfl|(simp [errW_none,errW_some] <;> rfl)|(simp [*,errW_none,errW_some] <;> rfl),by (with_reducible repeat (first|apply Kd.R_alloc|apply Kd.R_drewN|apply Kd.R_drew));exact Kd.R_mono (Kd.R_far (p:=⟨gb143,2,none⟩) (Kd.R_far (p:=⟨gb143,1,none⟩) (Kd.R_far (p:=⟨gb143,0,none⟩) (Kd.R_types HO170.out BK143.out (by decide)) (fun _ hk => hk.2) (.slice Ao32 t168.length co32)) (fun _ hk => hk.2) (.slice Ao34 t171.length co34)) (fun _ hk => hk.2) (.slice Ao35 t174.length co35)) (fun _ hk => ⟨hk.1.1.1,hk.1.1.2⟩),by (with_reducible repeat (first|apply Kd.R_alloc|apply Kd.R_drewN|apply Kd.R_drew));exact Kd.R_mono (Kd.R_far (p:=⟨gb143,2,none⟩) (Kd.R_far (p:=⟨gb143,1,none⟩) (Kd.R_far (p:=⟨gb143,0,none⟩) (Kd.R_types HO173.out BK143.out (by decide)) (fun _ hk => hk.2) (.slice Ao32 t168.length co32)) (fun _ hk => hk.2) (.slice Ao34 t171.length co34)) (fun _ hk => hk.2) (.slice Ao35 t174.length co35)) (fun _ hk => ⟨hk.1.1.1,hk.1.1.2⟩),by (with_reducible repeat (first|apply Kd.R_alloc|apply Kd.R_drewN|apply Kd.R_drew));exact Kd.R_mono (Kd.R_far (p:=⟨gb143,2,none⟩) (Kd.R_far (p:=⟨gb143,1,none⟩) (Kd.R_far (p:=⟨gb143,0,none⟩) (Kd.R_types HO176.out BK143.out (by decide)) (fun _ hk => hk.2) (.slice Ao32 t168.length co32)) (fun _ hk => hk.2) (.slice Ao34 t171.length co34)) (fun _ hk => hk.2) (.slice Ao35 t174.length co35)) (fun _ hk => ⟨hk.1.1.1,hk.1.1.2⟩),by repeat (first|(with_reducible first|exact HB.out|apply below_alloc|apply pw_below_drewN|apply below_drew1|refine below_set ?_ GE143.out)|exact HB.out)⟩
   ·
    rw [if_neg c25] at H
    have c25b0 : (a0.toList == ([110,111] : List UInt8)) = false:=beq_eq_false_iff_ne.mpr c25
    have c25b1 : (a0.toList != ([110,111] : List UInt8)) = true:=bne_iff_ne.mpr c25
    by_cases c36 : a0.toList = ([101,118,101,110] : List UInt8)
    ·
     rw [if_pos c36] at H
     have c36b0 : (a0.toList == ([101,118,101,110] : List UInt8)) = true:=beq_iff_eq.mpr c36
     have c36b1 : (a0.toList != ([101,118,101,110] : List UInt8)) = false:=bne_eq_false_iff_eq.mpr c36;clear c36
     obtain ⟨y177,hy177⟩ : ∃ y_ : List Int,y_ = (([1,0] : List Int)):=⟨_,rfl⟩
     replace H : ((spec_l4Count.f k 2 true y177).bind fun bt180 => (some (bt180.1,bt180.2.1,bt180.2.2,true))) = some (r1,r2,r3,r4):=by first|(rw [hy177];with_reducible exact H)|(have H2_:=(Option.bind_some _ _).symm.trans H;rw [hy177];with_reducible exact H2_)|(have H2_:=(Option.bind_some _ _).symm.trans H;with_reducible exact H2_)|with_reducible exact H|(rw [hy177];exact H)|exact H
     have Ny177:=Aside0.mk hy177;clear hy177
     replace H:=Option.bind_eq_some_iff.mp H
     obtain ⟨⟨t180,t183,t186⟩,A370,H⟩:=H
     replace H : (some (t180,t183,t186,true)) = some (r1,r2,r3,r4):=H
     have A37:=Aside0.mk A370;clear A370
     simp only [Option.some.injEq,Prod.mk.injEq] at H
     obtain ⟨rfl,rfl,rfl,rfl⟩:=H
     go_enter Tryd.func38,Tryd.ntmps38
     go_wp2_with (first|((with_reducible refine gate_dst (N:=2) rfl ?_);refine box_event ?hg (N:=2) ?hd (cs:=#[.slice none 0 0,.slice none 0 0,.slice none 0 0]) (t:=25) ?hr ?_;(case hd => rfl);(case hg => rfl);(case hr => first|(go_simp;done)|(go_simp;rfl));intro gb143 hg w38 hbox hb;have n0_:=Aside0.mk (below_step (belU HB.out) hb);have n1_:=Aside0.mk (hbox);have n2_:=Aside0.mk ((by rw [hg];exact (below_size (belU HB.out)) : w.heap.size ≤ gb143));have n3_:=Aside0.mk ((by rw [hg];exact (below_size (belU HB.out)) : w.heap.size ≤ gb143));clear HB;have HB:=n0_;have BK143:=n1_;have GW143:=n2_;have GE143:=n3_;clear n0_ n1_ n2_ n3_ hb hbox hg)|((with_reducible refine gate_dst (N:=23) rfl ?_);refine Kd.R_lit (Kd.int .i64) _ 3 ?hg (N:=23) ?hd (xs:=([1,0] : List Int)) (inner:=[.int .i64 1,.int .i64 0]) (ok:=fun _ => True) (okp:=fun _ => True) ?hr ?hp (fun _ hk => hk) trivial (Below.refl _ _) (Nat.le_refl _) (by simp) ?_;(case hd => rfl);(case hg => rfl);(case hr => first|(go_simp;done)|(go_simp;rfl));(case hp => exact (Reps.one (show Kd.M (Kd.int .i64) _ _ _ 1 [.int .i64 1] from rfl) (Reps.one (show Kd.M (Kd.int .i64) _ _ _ 0 [.int .i64 0] from rfl) (Reps.none _ _))));intro v178 w39 ho40 hb hg_ hnew_;clear hg_ hnew_;(first|rw [← Ny177.out] at ho40|(simp only [Int.reduceToNat] at ho40;rw [← Ny177.out] at ho40));have n0_:=Aside0.mk (Kd.R_lower ho40 (below_size (by repeat (first|(with_reducible first|exact HB.out|apply below_alloc|apply pw_below_drewN|apply below_drew1|refine below_set ?_ GE143.out)|exact HB.out))));have n1_:=Aside0.mk (blk_below (g:=gb143) (o:=.cells #[.slice none 0 0,.slice none 0 0,.slice none 0 0] 25 (0,0)) (blkU BK143.out) hb);have n2_:=Aside0.mk (below_step (by repeat (first|(with_reducible first|exact HB.out|apply below_alloc|apply pw_below_drewN|apply below_drew1|refine below_set ?_ GE143.out)|exact HB.out)) hb);clear BK143 HB;have HO179:=n0_;have BK143:=n1_;have HB:=n2_;clear n0_ n1_ n2_ hb ho40;obtain ⟨Ao41,co41,eo41⟩:=Kd.R_slice HO179.out;subst eo41)|((with_reducible refine gate_callee (f:=37) rfl ?_);refine goesL_ (some 24) rfl rfl Tryd.func37 (by kernel_rfl) rfl #[.int .i64 2,.bool true,.slice Ao41 y177.length co41] rfl (by (try simp only [List.map_toArray,List.map_cons,List.map_nil]);first|done|rfl|(simp only [List.length_drop,List.length_take];rfl)) ?_;(with_reducible refine (spec_l4Count.calls k 2 true _ _ y177 t180 t183 t186 _ _ _ (rU HO179.out) A37.out).mono ?_);rintro e w42 ⟨v181,v184,v187,rfl,ho0,ho1,ho2,hb⟩;refine ⟨_,rfl,?_⟩;have n0_:=Aside0.mk (Kd.R_told (Kd.R_told (Kd.R_old (rU HO179.out) hb) (Kd.R_base ho0)) (Kd.R_base ho1));have n1_:=Aside0.mk (Kd.R_lower (Kd.R_new' ho0 (Kd.R_lt (rU HO179.out))) (below_size (by repeat (first|(with_reducible first|exact HB.out|apply below_alloc|apply pw_below_drewN|apply below_drew1|refine below_set ?_ GE143.out)|exact HB.out))));have n2_:=Aside0.mk (Kd.R_lower (Kd.R_new' ho1 (Kd.R_lt (rU HO179.out))) (below_size (by repeat (first|(with_reducible first|exact HB.out|apply below_alloc|apply pw_below_drewN|apply below_drew1|refine below_set ?_ GE143.out)|exact HB.out))));have n3_:=Aside0.mk (Kd.R_mono (ok':=fun k_ => (some k_ ≠ Value.ownBlock v181 ∧ some k_ ≠ Value.ownBlock v184) ∧ True) ho2 (fun _ h_ => ⟨h_,trivial⟩));have n4_:=Aside0.mk (blk_below (g:=gb143) (o:=.cells #[.slice none 0 0,.slice none 0 0,.slice none 0 0] 25 (0,0)) (blkU BK143.out) hb);have n5_:=Aside0.mk (below_step (by repeat (first|(with_reducible first|exact HB.out|apply below_alloc|apply pw_below_drewN|apply below_drew1|refine below_set ?_ GE143.out)|exact HB.out)) hb);clear HO179 BK143 HB;have HO179:=n0_;have HO182:=n1_;have HO185:=n2_;have HO188:=n3_;have BK143:=n4_;have HB:=n5_;clear n0_ n1_ n2_ n3_ n4_ n5_;(try clear hb);(try clear hb2);(try clear hk);(try clear hi);(try clear ho0);(try clear ho1);(try clear ho2);obtain ⟨Ao43,co43,eo43⟩:=Kd.R_slice HO182.out;subst eo43;have hcz44_0 : w42.cell? ⟨gb143,0,none⟩ = some (.slice none 0 0):=(blk_cell BK143.out 0).trans rfl;have hcz44_1 : w42.cell? ⟨gb143,1,none⟩ = some (.slice none 0 0):=(blk_cell BK143.out 1).trans rfl;have hcz44_2 : w42.cell? ⟨gb143,2,none⟩ = some (.slice none 0 0):=(blk_cell BK143.out 2).trans rfl;have hfz44_0:=blk_frozen BK143.out 0;have hfz44_1:=blk_frozen BK143.out 1;have hfz44_2:=blk_frozen BK143.out 2;obtain ⟨Ao45,co45,eo45⟩:=Kd.R_slice HO185.out;subst eo45;obtain ⟨Ao46,co46,eo46⟩:=Kd.R_slice HO188.out;subst eo46))
     refine bodyPost_ret (results_ct rfl _ _ gb143 25 #[.slice Ao43 t180.length co43,.slice Ao45 t183.length co45,.slice Ao46 t186.length co46] (0,0) _ rfl (by (with_reducible repeat (first|refine blk_drewN ?_ _|refine blk_drew ?_|refine blk_alloc ?_ _));refine blk_put (cs:=#[.slice Ao43 t180.length co43,.slice Ao45 t183.length co45,.slice none 0 0]) ?_ 2 _ rfl;(with_reducible repeat (first|refine blk_drewN ?_ _|refine blk_drew ?_|refine blk_alloc ?_ _));refine blk_put (cs:=#[.slice Ao43 t180.length co43,.slice none 0 0,.slice none 0 0]) ?_ 1 _ rfl;(with_reducible repeat (first|refine blk_drewN ?_ _|refine blk_drew ?_|refine blk_alloc ?_ _));refine blk_put (cs:=#[.slice none 0 0,.slice none 0 0,.slice none 0 0]) ?_ 0 _ rfl;(with_reducible repeat (first|refine blk_drewN ?_ _|refine blk_drew ?_|refine blk_alloc ?_ _));exact BK143.out) Tryd.underlying25 rfl (by kernel_rfl)) rfl ?_
     exact ⟨_,_,_,by first|rfl|(simp [errW_none,errW_some] <;> rfl)|(simp [*,errW_none,errW_some] <;> rfl),by (with_reducible repeat (first|apply Kd.R_alloc|apply Kd.R_drewN|apply Kd.R_drew));exact Kd.R_mono (Kd.R_far (p:=⟨gb143,2,none⟩) (Kd.R_far (p:=⟨gb143,1,none⟩) (Kd.R_far (p:=⟨gb143,0,none⟩) (Kd.R_types HO182.out BK143.out (by decide)) (fun _ hk => hk.2) (.slice Ao43 t180.length co43)) (fun _ hk => hk.2) (.slice Ao45 t183.length co45)) (fun _ hk => hk.2) (.slice Ao46 t186.length co46)) (fun _ hk => ⟨hk.1.1.1,hk.1.1.2⟩),by (with_reducible repeat (first|apply Kd.R_alloc|apply Kd.R_drewN|apply Kd.R_drew));exact Kd.R_mono (Kd.R_far (p:=⟨gb143,2,none⟩) (Kd.R_far (p:=⟨gb143,1,none⟩) (Kd.R_far (p:=⟨gb143,0,none⟩) (Kd.R_types HO185.out BK143.out (by decide)) (fun _ hk => hk.2) (.slice Ao43 t180.length co43)) (fun _ hk => hk.2) (.slice Ao45 t183.length co45)) (fun _ hk => hk.2) (.slice Ao46 t186.length co46)) (fun _ hk => ⟨hk.1.1.1,hk.1.1.2⟩),by (with_reducible repeat (first|apply Kd.R_alloc|apply Kd.R_drewN|apply Kd.R_drew));exact Kd.R_mono (Kd.R_far (p:=⟨gb143,2,none⟩) (Kd.R_far (p:=⟨gb143,1,none⟩) (Kd.R_far (p:=⟨gb143,0,none⟩) (Kd.R_types HO188.out BK143.out (by decide)) (fun _ hk => hk.2) (.slice Ao43 t180.length co43)) (fun _ hk => hk.2) (.slice Ao45 t183.length co45)) (fun _ hk => hk.2) (.slice Ao46 t186.length co46)) (fun _ hk => ⟨hk.1.1.1,hk.1.1.2⟩),by repeat (first|(with_reducible first|exact HB.out|apply below_alloc|apply pw_below_drewN|apply below_drew1|refine below_set ?_ GE143.out)|exact HB.out)⟩
    ·
     rw [if_neg c36] at H
     have c36b0 : (a0.toList == ([101,118,101,110] : List UInt8)) = false:=beq_eq_false_iff_ne.mpr c36
     have c36b1 : (a0.toList != ([101,118,101,110] : List UInt8)) = true:=bne_iff_ne.mpr c36
     have H':=Aside0.mk H;clear H
     go_enter Tryd.func38,Tryd.ntmps38
     go_wp2_with (first|((with_reducible refine gate_dst (N:=2) rfl ?_);refine box_event ?hg (N:=2) ?hd (cs:=#[.slice none 0 0,.slice none 0 0,.slice none 0 0]) (t:=25) ?hr ?_;(case hd => rfl);(case hg => rfl);(case hr => first|(go_simp;done)|(go_simp;rfl));intro gb143 hg w47 hbox hb;have n0_:=Aside0.mk (below_step (belU HB.out) hb);have n1_:=Aside0.mk (hbox);have n2_:=Aside0.mk ((by rw [hg];exact (below_size (belU HB.out)) : w.heap.size ≤ gb143));have n3_:=Aside0.mk ((by rw [hg];exact (below_size (belU HB.out)) : w.heap.size ≤ gb143));clear HB;have HB:=n0_;have BK143:=n1_;have GW143:=n2_;have GE143:=n3_;clear n0_ n1_ n2_ n3_ hb hbox hg))
     go_loopg [4] k (fun kq v4 w' => ∃ (x4_1 : Int),v4 = .int .i64 x4_1 ∧ Aside0 (spec_NamedMachine.l0 kq a0 x4_1 = some (r1,r2,r3,r4)) ∧ Aside0 (kq ≤ k) ∧ Aside0 (w'.heap[gb143]? = some (.cells #[(.slice none 0 0),(.slice none 0 0),(.slice none 0 0)] 25 (0,0))) ∧ Aside0 (Below w.heap.size w w'))
     case atStart => exact ⟨(0),(by first|rfl|(simp;done)|(simp [*];done)),H',⟨Nat.le_refl _⟩,⟨blkU BK143.out⟩,⟨by repeat (first|(with_reducible first|exact HB.out|apply below_alloc|apply pw_below_drewN|apply below_drew1|refine below_set ?_ GE143.out)|exact HB.out)⟩⟩
     case round =>
      clear H'
      try clear c1
      try clear c2
      try clear c2b0
      try clear c2b1
      try clear p2
      try clear c3
      try clear c14
      try clear c14b0
      try clear c14b1
      try clear c25
      try clear c25b0
      try clear c25b1
      try clear c36
      try clear c36b0
      try clear c36b1
      try clear c37
      try clear c38
      try clear hcz13_0
      try clear hcz13_1
      try clear hcz13_2
      try clear hcz22_0
      try clear hcz22_1
      try clear hcz22_2
      try clear hcz33_0
      try clear hcz33_1
      try clear hcz33_2
      try clear hcz44_0
      try clear hcz44_1
      try clear hcz44_2
      try clear hfz13_0
      try clear hfz13_1
      try clear hfz13_2
      try clear hfz22_0
      try clear hfz22_1
      try clear hfz22_2
      try clear hfz33_0
      try clear hfz33_1
      try clear hfz33_2
      try clear hfz44_0
      try clear hfz44_1
      try clear hfz44_2
      obtain ⟨x4_1,rfl,HA,HK1,BK143,HB⟩:=hrel
      cases gk with
      | zero => exact absurd HA.out (by simp [spec_NamedMachine.l0])
      | succ k1 =>
       have H:=HA.out;clear HA
       simp only [spec_NamedMachine.l0] at H
       by_cases c48 : x4_1 ≤ 5
       ·
        rw [if_pos c48] at H
        have c48b0 : decide (x4_1 ≤ 5) = true:=decide_eq_true c48;clear c48
        by_cases c49 : 0 ≤ x4_1
        ·
         rw [if_pos c49] at H
         have c49b0:=eq_true c49
         have c49b1 : decide (0 ≤ x4_1) = true:=decide_eq_true c49;clear c49
         by_cases c50 : (x4_1 : Int).toNat ≤ 35184372088832
         ·
          rw [if_pos c50] at H
          have c50b0:=eq_true c50
          have c50b1 : decide ((x4_1 : Int).toNat ≤ 35184372088832) = true:=decide_eq_true c50;clear c50
          obtain ⟨y189,hy189⟩ : ∃ y_ : List Int,y_ = (List.replicate (x4_1 : Int).toNat 0):=⟨_,rfl⟩
          replace H : ((spec_l1Number.f k1 x4_1).bind fun t192 => (if 7 + t192.size ≤ 9223372036854775807 then (if a0.toList = ((⟨#[97,116,108,101,97,115,116]⟩ : ByteArray) ++ t192).toList then (spec_NamedMachine.j1 k1 a0 x4_1 y189 (decide (x4_1 > 0))) else (spec_NamedMachine.j1 k1 a0 x4_1 y189 false)) else (none))) = some (r1,r2,r3,r4):=by first|(rw [hy189];with_reducible exact H)|(have H2_:=(Option.bind_some _ _).symm.trans H;rw [hy189];with_reducible exact H2_)|(have H2_:=(Option.bind_some _ _).symm.trans H;with_reducible exact H2_)|with_reducible exact H|(rw [hy189];exact H)|exact H
          have Ny189:=Aside0.mk hy189;clear hy189
          have HC51:=Aside0.mk H;clear H
          go_upto_region 14 with (first|((with_reducible refine gate_dst (N:=30) rfl ?_);refine Kd.R_make (Kd.int .i64) _ 3 rfl (N:=30) rfl 23 _ _ rfl x4_1 rfl rfl Tryd.underlying23 (.int .i64 0) 8 info3 rfl (by decide) (by omega) 0 (ok:=fun _ => True) (okp:=fun _ => True) rfl (fun _ hk => hk) trivial (of_decide_eq_true (by first|(with_reducible assumption)|assumption)) (Nat.le_trans (Nat.mul_le_mul_right _ (of_decide_eq_true (by first|(with_reducible assumption)|assumption) : x4_1.toNat ≤ 35184372088832)) (by omega)) (Below.refl _ _) (Nat.le_refl _) ?_;intro v190 w52 ho53 hb hg_ hnew_;clear hg_ hnew_;(first|rw [← Ny189.out] at ho53|(simp only [Int.reduceToNat] at ho53;rw [← Ny189.out] at ho53));have n0_:=Aside0.mk (Kd.R_lower ho53 (below_size (by repeat (first|(with_reducible first|exact HB.out|apply below_alloc|apply pw_below_drewN|apply below_drew1|refine below_set ?_ GE143.out)|exact HB.out))));have n1_:=Aside0.mk (blk_below (g:=gb143) (o:=.cells #[.slice none 0 0,.slice none 0 0,.slice none 0 0] 25 (0,0)) (blkU BK143.out) hb);have n2_:=Aside0.mk (below_step (by repeat (first|(with_reducible first|exact HB.out|apply below_alloc|apply pw_below_drewN|apply below_drew1|refine below_set ?_ GE143.out)|exact HB.out)) hb);clear BK143 HB;have HO191:=n0_;have BK143:=n1_;have HB:=n2_;clear n0_ n1_ n2_ hb ho53))
          (try simp only [Act.put,List.setIfInBounds_toArray,List.set_cons_zero,List.set_cons_succ])
          go_cut [39] (fun v39 wc => ∃ (kq : Nat) (x39_50 : Bool),v39 = .bool x39_50 ∧ Aside0 (spec_NamedMachine.j1 kq a0 x4_1 y189 x39_50 = some (r1,r2,r3,r4)) ∧ Aside0 (kq ≤ k1) ∧ Aside0 (Kd.R (Kd.int .i64) 3 wc w.heap.size (fun _ => True) v190 y189) ∧ Aside0 (wc.heap[gb143]? = some (.cells #[(.slice none 0 0),(.slice none 0 0),(.slice none 0 0)] 25 (0,0))) ∧ Aside0 (Below w.heap.size w wc))
          case first =>
           have H:=HC51.out;clear HC51
           replace H:=Option.bind_eq_some_iff.mp H
           obtain ⟨t192,A540,H⟩:=H
           replace H : (if 7 + t192.size ≤ 9223372036854775807 then (if a0.toList = ((⟨#[97,116,108,101,97,115,116]⟩ : ByteArray) ++ t192).toList then (spec_NamedMachine.j1 k1 a0 x4_1 y189 (decide (x4_1 > 0))) else (spec_NamedMachine.j1 k1 a0 x4_1 y189 false)) else (none)) = some (r1,r2,r3,r4):=H
           have A54:=Aside0.mk A540;clear A540
           by_cases c55 : 7 + t192.size ≤ 9223372036854775807
           ·
            rw [if_pos c55] at H
            have c55b0:=eq_true c55
            have c55b1 : decide (7 + t192.size ≤ 9223372036854775807) = true:=decide_eq_true c55
            try have c55b2 : (9223372036854775807 < 7 + t192.size) = False:=eq_false (Nat.not_lt.2 c55)
            have zl0 : (⟨#[106,117,115,116]⟩ : ByteArray).size = 4:=rfl
            have zl1 : (⟨#[97,116,108,101,97,115,116]⟩ : ByteArray).size = 7:=rfl;have c55n:=c55
            (try simp only [ByteArray.size_append,zl0,zl1,Nat.reduceAdd] at c55n)
            (try have c55n0:=eq_true c55n)
            (try have c55n1:=decide_eq_true c55n)
            (try have c55n2:=eq_false (Nat.not_lt.2 c55n));clear zl0 zl1
            by_cases c56 : a0.toList = ((⟨#[97,116,108,101,97,115,116]⟩ : ByteArray) ++ t192).toList
            ·
             rw [if_pos c56] at H
             have c56b0 : (a0.toList == ((⟨#[97,116,108,101,97,115,116]⟩ : ByteArray) ++ t192).toList) = true:=beq_iff_eq.mpr c56
             have c56b1 : (a0.toList != ((⟨#[97,116,108,101,97,115,116]⟩ : ByteArray) ++ t192).toList) = false:=bne_eq_false_iff_eq.mpr c56;clear c56
             (first|rw [c56b0]|(simp only [i64_w,i32_w];rw [c56b0])|skip)
             have H':=Aside0.mk H;clear H
             go_wp2_with (first|((with_reducible refine gate_callee (f:=57) rfl ?_);refine goesL_ (some 33) rfl rfl Tryd.func57 (by kernel_rfl) rfl #[.int .i64 x4_1] rfl (by (try simp only [List.map_toArray,List.map_cons,List.map_nil]);first|done|rfl|(simp only [List.length_drop,List.length_take];rfl)) ?_;(with_reducible refine (spec_l1Number.calls k1 x4_1 t192 _ A54.out).mono ?_);rintro e w57 ⟨rfl,hb⟩;refine ⟨_,rfl,?_⟩;have n0_:=Aside0.mk (Kd.R_below (rU HO191.out) hb);have n1_:=Aside0.mk (blk_below (g:=gb143) (o:=.cells #[.slice none 0 0,.slice none 0 0,.slice none 0 0] 25 (0,0)) (blkU BK143.out) hb);have n2_:=Aside0.mk (below_step (by repeat (first|(with_reducible first|exact HB.out|apply below_alloc|apply pw_below_drewN|apply below_drew1|refine below_set ?_ GE143.out)|exact HB.out)) hb);clear HO191 BK143 HB;have HO191:=n0_;have BK143:=n1_;have HB:=n2_;clear n0_ n1_ n2_;(try clear hb);(try clear hb2);(try clear hk);(try clear hi)))
             go_meet
             case rel => exact ⟨_,(decide (x4_1 > 0)),(by first|rfl|(simp;done)|(simp [*];done)),H',⟨by have:=HK1.out;first|omega|exact Nat.le_refl _⟩,⟨rU HO191.out⟩,⟨blkU BK143.out⟩,⟨by repeat (first|(with_reducible first|exact HB.out|apply below_alloc|apply pw_below_drewN|apply below_drew1|refine below_set ?_ GE143.out)|exact HB.out)⟩⟩
            ·
             rw [if_neg c56] at H
             have c56b0 : (a0.toList == ((⟨#[97,116,108,101,97,115,116]⟩ : ByteArray) ++ t192).toList) = false:=beq_eq_false_iff_ne.mpr c56
             have c56b1 : (a0.toList != ((⟨#[97,116,108,101,97,115,116]⟩ : ByteArray) ++ t192).toList) = true:=bne_iff_ne.mpr c56
             (first|rw [c56b0]|(simp only [i64_w,i32_w];rw [c56b0])|skip)
             have H':=Aside0.mk H;clear H
             go_wp2_with (first|((with_reducible refine gate_callee (f:=57) rfl ?_);refine goesL_ (some 33) rfl rfl Tryd.func57 (by kernel_rfl) rfl #[.int .i64 x4_1] rfl (by (try simp only [List.map_toArray,List.map_cons,List.map_nil]);first|done|rfl|(simp only [List.length_drop,List.length_take];rfl)) ?_;(with_reducible refine (spec_l1Number.calls k1 x4_1 t192 _ A54.out).mono ?_);rintro e w58 ⟨rfl,hb⟩;refine ⟨_,rfl,?_⟩;have n0_:=Aside0.mk (Kd.R_below (rU HO191.out) hb);have n1_:=Aside0.mk (blk_below (g:=gb143) (o:=.cells #[.slice none 0 0,.slice none 0 0,.slice none 0 0] 25 (0,0)) (blkU BK143.out) hb);have n2_:=Aside0.mk (below_step (by repeat (first|(with_reducible first|exact HB.out|apply below_alloc|apply pw_below_drewN|apply below_drew1|refine below_set ?_ GE143.out)|exact HB.out)) hb);clear HO191 BK143 HB;have HO191:=n0_;have BK143:=n1_;have HB:=n2_;clear n0_ n1_ n2_;(try clear hb);(try clear hb2);(try clear hk);(try clear hi)))
             go_meet
             case rel => exact ⟨_,(false),(by first|rfl|(simp;done)|(simp [*];done)),H',⟨by have:=HK1.out;first|omega|exact Nat.le_refl _⟩,⟨rU HO191.out⟩,⟨blkU BK143.out⟩,⟨by repeat (first|(with_reducible first|exact HB.out|apply below_alloc|apply pw_below_drewN|apply below_drew1|refine below_set ?_ GE143.out)|exact HB.out)⟩⟩
           ·
            rw [if_neg c55] at H
            exact absurd H (by simp)
          case rest =>
           clear HC51
           try clear c1
           try clear c2
           try clear c2b0
           try clear c2b1
           try clear p2
           try clear c3
           try clear c4
           try clear c5
           try clear c14
           try clear c14b0
           try clear c14b1
           try clear c25
           try clear c25b0
           try clear c25b1
           try clear c36
           try clear c36b0
           try clear c36b1
           try clear c37
           try clear c38
           try clear c48
           try clear c48b0
           try clear c49
           try clear c49b0
           try clear c49b1
           try clear c50
           try clear c50b0
           try clear c50b1
           try clear c55
           try clear c55b0
           try clear c55b1
           try clear c55b2
           try clear c56
           try clear c56b0
           try clear c56b1
           try clear c57
           try clear hcz13_0
           try clear hcz13_1
           try clear hcz13_2
           try clear hcz22_0
           try clear hcz22_1
           try clear hcz22_2
           try clear hcz33_0
           try clear hcz33_1
           try clear hcz33_2
           try clear hcz44_0
           try clear hcz44_1
           try clear hcz44_2
           try clear hfz13_0
           try clear hfz13_1
           try clear hfz13_2
           try clear hfz22_0
           try clear hfz22_1
           try clear hfz22_2
           try clear hfz33_0
           try clear hfz33_1
           try clear hfz33_2
           try clear hfz44_0
           try clear hfz44_1
           try clear hfz44_2
           try clear p2
           obtain ⟨kq,x39_50,rfl,HA,HJ50,HO_5,BK143,HB⟩:=hcut
           cases kq with
           | zero => exact absurd HA.out (by simp [spec_NamedMachine.j1])
           | succ kj50 =>
            have H:=HA.out;clear HA
            simp only [spec_NamedMachine.j1] at H
            by_cases c59 : x39_50 = true
            ·
             subst c59
             have H1 : (if y189.length < 17592186044416 then ((spec_l4Count.f kj50 (wrap64 (x4_1 + 1)) false (y189 ++ [1])).bind fun bt196 => (some (bt196.1,bt196.2.1,bt196.2.2,true))) else (none)) = some (r1,r2,r3,r4):=by rw [if_pos rfl] at H;exact H
             clear H;have H:=H1;clear H1
             by_cases c60 : y189.length < 17592186044416
             ·
              rw [if_pos c60] at H
              have LMc60:=Aside0.mk c60;clear c60
              obtain ⟨y193,hy193⟩ : ∃ y_ : List Int,y_ = (y189 ++ [1]):=⟨_,rfl⟩
              replace H : ((spec_l4Count.f kj50 (wrap64 (x4_1 + 1)) false y193).bind fun bt196 => (some (bt196.1,bt196.2.1,bt196.2.2,true))) = some (r1,r2,r3,r4):=by first|(rw [hy193];with_reducible exact H)|(have H2_:=(Option.bind_some _ _).symm.trans H;rw [hy193];with_reducible exact H2_)|(have H2_:=(Option.bind_some _ _).symm.trans H;with_reducible exact H2_)|with_reducible exact H|(rw [hy193];exact H)|exact H
              have Ny193:=Aside0.mk hy193;clear hy193
              replace H:=Option.bind_eq_some_iff.mp H
              obtain ⟨⟨t196,t199,t202⟩,A610,H⟩:=H
              replace H : (some (t196,t199,t202,true)) = some (r1,r2,r3,r4):=H
              have A61:=Aside0.mk A610;clear A610
              simp only [Option.some.injEq,Prod.mk.injEq] at H
              obtain ⟨rfl,rfl,rfl,rfl⟩:=H
              go_wp2_with (first|((with_reducible refine gate_builtin (b:=.append) (xs:=#[.tmp 42,.tmp 43]) rfl ?_);at_builtin;refine Kd.R_append (Kd.int .i64) (w0:=w) w.heap.size rfl (.tmp 42) (.tmp 43) 23 3 (.int .i64 0) 8 rfl Tryd.underlying23 info3 rfl (by decide) (by omega) v190 y189 1 [.int .i64 1] (fun _ => True) (fun _ => False) rfl rfl ?aP (fun _ hk => hk.elim) ?aF ?aO ?aB ?aS ?aL ?_;(case aP => exact rfl);(case aB => exact (by repeat (first|(with_reducible first|exact HB.out|apply below_alloc|apply pw_below_drewN|apply below_drew1|refine below_set ?_ GE143.out)|exact HB.out)));(case aF => exact (fun _ _ => trivial));(case aO => exact (rU HO_5.out));(case aS => exact (below_size (by repeat (first|(with_reducible first|exact HB.out|apply below_alloc|apply pw_below_drewN|apply below_drew1|refine below_set ?_ GE143.out)|exact HB.out))));(case aL => have:=LMc60.out;omega);intro v194 w62 ho hb hg hat;rw [← Ny193.out] at ho;have n0_:=Aside0.mk (blk_grown (g:=gb143) (o:=.cells #[.slice none 0 0,.slice none 0 0,.slice none 0 0] 25 (0,0)) (blkU BK143.out) hg (Kd.R_ne HO_5.out BK143.out (by decide)));have n1_:=Aside0.mk (hb);have n2_:=Aside0.mk (ho);clear BK143 HB HO_5;have BK143:=n0_;have HB:=n1_;have HO195:=n2_;clear n0_ n1_ n2_ ho hb hg hat;obtain ⟨Ao63,co63,eo63⟩:=Kd.R_slice HO195.out;subst eo63)|((with_reducible refine gate_callee (f:=37) rfl ?_);refine goesL_ (some 45) rfl rfl Tryd.func37 (by kernel_rfl) rfl #[.int .i64 (wrap64 (x4_1 + 1)),.bool false,.slice Ao63 y193.length co63] rfl (by (try simp only [List.map_toArray,List.map_cons,List.map_nil]);first|done|rfl|(simp only [List.length_drop,List.length_take];rfl)) ?_;(with_reducible refine (spec_l4Count.calls kj50 (wrap64 (x4_1 + 1)) false _ _ y193 t196 t199 t202 _ _ _ (rU HO195.out) A61.out).mono ?_);rintro e w64 ⟨v197,v200,v203,rfl,ho0,ho1,ho2,hb⟩;refine ⟨_,rfl,?_⟩;have n0_:=Aside0.mk (Kd.R_told (Kd.R_told (Kd.R_old (rU HO195.out) hb) (Kd.R_base ho0)) (Kd.R_base ho1));have n1_:=Aside0.mk (Kd.R_lower (Kd.R_new' ho0 (Kd.R_lt (rU HO195.out))) (below_size (by repeat (first|(with_reducible first|exact HB.out|apply below_alloc|apply pw_below_drewN|apply below_drew1|refine below_set ?_ GE143.out)|exact HB.out))));have n2_:=Aside0.mk (Kd.R_lower (Kd.R_new' ho1 (Kd.R_lt (rU HO195.out))) (below_size (by repeat (first|(with_reducible first|exact HB.out|apply below_alloc|apply pw_below_drewN|apply below_drew1|refine below_set ?_ GE143.out)|exact HB.out))));have n3_:=Aside0.mk (Kd.R_mono (ok':=fun k_ => (some k_ ≠ Value.ownBlock v197 ∧ some k_ ≠ Value.ownBlock v200) ∧ True) ho2 (fun _ h_ => ⟨h_,trivial⟩));have n4_:=Aside0.mk (blk_below (g:=gb143) (o:=.cells #[.slice none 0 0,.slice none 0 0,.slice none 0 0] 25 (0,0)) (blkU BK143.out) hb);have n5_:=Aside0.mk (below_step (by repeat (first|(with_reducible first|exact HB.out|apply below_alloc|apply pw_below_drewN|apply below_drew1|refine below_set ?_ GE143.out)|exact HB.out)) hb);clear HO195 BK143 HB;have HO195:=n0_;have HO198:=n1_;have HO201:=n2_;have HO204:=n3_;have BK143:=n4_;have HB:=n5_;clear n0_ n1_ n2_ n3_ n4_ n5_;(try clear hb);(try clear hb2);(try clear hk);(try clear hi);(try clear ho0);(try clear ho1);(try clear ho2);obtain ⟨Ao65,co65,eo65⟩:=Kd.R_slice HO198.out;subst eo65;have hcz66_0 : w64.cell? ⟨gb143,0,none⟩ = some (.slice none 0 0):=(blk_cell BK143.out 0).trans rfl;have hcz66_1 : w64.cell? ⟨gb143,1,none⟩ = some (.slice none 0 0):=(blk_cell BK143.out 1).trans rfl;have hcz66_2 : w64.cell? ⟨gb143,2,none⟩ = some (.slice none 0 0):=(blk_cell BK143.out 2).trans rfl;have hfz66_0:=blk_frozen BK143.out 0;have hfz66_1:=blk_frozen BK143.out 1;have hfz66_2:=blk_frozen BK143.out 2;obtain ⟨Ao67,co67,eo67⟩:=Kd.R_slice HO201.out;subst eo67;obtain ⟨Ao68,co68,eo68⟩:=Kd.R_slice HO204.out;subst eo68))
              refine bodyPost_ret (results_ct rfl _ _ gb143 25 #[.slice Ao65 t196.length co65,.slice Ao67 t199.length co67,.slice Ao68 t202.length co68] (0,0) _ rfl (by (with_reducible repeat (first|refine blk_drewN ?_ _|refine blk_drew ?_|refine blk_alloc ?_ _));refine blk_put (cs:=#[.slice Ao65 t196.length co65,.slice Ao67 t199.length co67,.slice none 0 0]) ?_ 2 _ rfl;(with_reducible repeat (first|refine blk_drewN ?_ _|refine blk_drew ?_|refine blk_alloc ?_ _));refine blk_put (cs:=#[.slice Ao65 t196.length co65,.slice none 0 0,.slice none 0 0]) ?_ 1 _ rfl;(with_reducible repeat (first|refine blk_drewN ?_ _|refine blk_drew ?_|refine blk_alloc ?_ _));refine blk_put (cs:=#[.slice none 0 0,.slice none 0 0,.slice none 0 0]) ?_ 0 _ rfl;(with_reducible repeat (first|refine blk_drewN ?_ _|refine blk_drew ?_|refine blk_alloc ?_ _));exact BK143.out) Tryd.underlying25 rfl (by kernel_rfl)) rfl ?_
              exact ⟨_,_,_,by first|rfl|(simp [errW_none,errW_some] <;> rfl)|(simp [*,errW_none,errW_some] <;> rfl),by (with_reducible repeat (first|apply Kd.R_alloc|apply Kd.R_drewN|apply Kd.R_drew));exact Kd.R_mono (Kd.R_far (p:=⟨gb143,2,none⟩) (Kd.R_far (p:=⟨gb143,1,none⟩) (Kd.R_far (p:=⟨gb143,0,none⟩) (Kd.R_types HO198.out BK143.out (by decide)) (fun _ hk => hk.2) (.slice Ao65 t196.length co65)) (fun _ hk => hk.2) (.slice Ao67 t199.length co67)) (fun _ hk => hk.2) (.slice Ao68 t202.length co68)) (fun _ hk => ⟨hk.1.1.1,hk.1.1.2⟩),by (with_reducible repeat (first|apply Kd.R_alloc|apply Kd.R_drewN|apply Kd.R_drew));exact Kd.R_mono (Kd.R_far (p:=⟨gb143,2,none⟩) (Kd.R_far (p:=⟨gb143,1,none⟩) (Kd.R_far (p:=⟨gb143,0,none⟩) (Kd.R_types HO201.out BK143.out (by decide)) (fun _ hk => hk.2) (.slice Ao65 t196.length co65)) (fun _ hk => hk.2) (.slice Ao67 t199.length co67)) (fun _ hk => hk.2) (.slice Ao68 t202.length co68)) (fun _ hk => ⟨hk.1.1.1,hk.1.1.2⟩),by (with_reducible repeat (first|apply Kd.R_alloc|apply Kd.R_drewN|apply Kd.R_drew));exact Kd.R_mono (Kd.R_far (p:=⟨gb143,2,none⟩) (Kd.R_far (p:=⟨gb143,1,none⟩) (Kd.R_far (p:=⟨gb143,0,none⟩) (Kd.R_types HO204.out BK143.out (by decide)) (fun _ hk => hk.2) (.slice Ao65 t196.length co65)) (fun _ hk => hk.2) (.slice Ao67 t199.length co67)) (fun _ hk => hk.2) (.slice Ao68 t202.length co68)) (fun _ hk => ⟨hk.1.1.1,hk.1.1.2⟩),by repeat (first|(with_reducible first|exact HB.out|apply below_alloc|apply pw_below_drewN|apply below_drew1|refine below_set ?_ GE143.out)|exact HB.out)⟩
             ·
              rw [if_neg c60] at H
              exact absurd H (by simp)
            ·
             replace c59:=Bool.eq_false_iff.mpr c59;subst c59
             have H1 : ((spec_l1Number.f kj50 x4_1).bind fun t205 => (if 4 + t205.size ≤ 9223372036854775807 then (if a0.toList = ((⟨#[106,117,115,116]⟩ : ByteArray) ++ t205).toList then ((some (([1,0] : List Int) : List Int)).bind fun y206 => (if y189.length + y206.length < 17592186044416 then ((spec_l4Count.f kj50 (wrap64 (x4_1 + 2)) false (y189 ++ y206)).bind fun bt212 => (some (bt212.1,bt212.2.1,bt212.2.2,true))) else (none))) else (spec_NamedMachine.l0 kj50 a0 (wrap64 (x4_1 + 1)))) else (none))) = some (r1,r2,r3,r4):=by rw [if_neg (show ¬ (false = true) by decide)] at H;exact H
             clear H;have H:=H1;clear H1
             replace H:=Option.bind_eq_some_iff.mp H
             obtain ⟨t205,A690,H⟩:=H
             replace H : (if 4 + t205.size ≤ 9223372036854775807 then (if a0.toList = ((⟨#[106,117,115,116]⟩ : ByteArray) ++ t205).toList then ((some (([1,0] : List Int) : List Int)).bind fun y206 => (if y189.length + y206.length < 17592186044416 then ((spec_l4Count.f kj50 (wrap64 (x4_1 + 2)) false (y189 ++ y206)).bind fun bt212 => (some (bt212.1,bt212.2.1,bt212.2.2,true))) else (none))) else (spec_NamedMachine.l0 kj50 a0 (wrap64 (x4_1 + 1)))) else (none)) = some (r1,r2,r3,r4):=H
             have A69:=Aside0.mk A690;clear A690
             by_cases c70 : 4 + t205.size ≤ 9223372036854775807
             ·
              rw [if_pos c70] at H
              have c70b0:=eq_true c70
              have c70b1 : decide (4 + t205.size ≤ 9223372036854775807) = true:=decide_eq_true c70
              try have c70b2 : (9223372036854775807 < 4 + t205.size) = False:=eq_false (Nat.not_lt.2 c70)
              have zl0 : (⟨#[106,117,115,116]⟩ : ByteArray).size = 4:=rfl
              have zl1 : (⟨#[97,116,108,101,97,115,116]⟩ : ByteArray).size = 7:=rfl;have c70n:=c70
              (try simp only [ByteArray.size_append,zl0,zl1,Nat.reduceAdd] at c70n)
              (try have c70n0:=eq_true c70n)
              (try have c70n1:=decide_eq_true c70n)
              (try have c70n2:=eq_false (Nat.not_lt.2 c70n));clear zl0 zl1
              by_cases c71 : a0.toList = ((⟨#[106,117,115,116]⟩ : ByteArray) ++ t205).toList
              ·
               rw [if_pos c71] at H
               have c71b0 : (a0.toList == ((⟨#[106,117,115,116]⟩ : ByteArray) ++ t205).toList) = true:=beq_iff_eq.mpr c71
               have c71b1 : (a0.toList != ((⟨#[106,117,115,116]⟩ : ByteArray) ++ t205).toList) = false:=bne_eq_false_iff_eq.mpr c71;clear c71
               obtain ⟨y206,hy206⟩ : ∃ y_ : List Int,y_ = (([1,0] : List Int)):=⟨_,rfl⟩
               replace H : (if y189.length + y206.length < 17592186044416 then ((spec_l4Count.f kj50 (wrap64 (x4_1 + 2)) false (y189 ++ y206)).bind fun bt212 => (some (bt212.1,bt212.2.1,bt212.2.2,true))) else (none)) = some (r1,r2,r3,r4):=by first|(rw [hy206];with_reducible exact H)|(have H2_:=(Option.bind_some _ _).symm.trans H;rw [hy206];with_reducible exact H2_)|(have H2_:=(Option.bind_some _ _).symm.trans H;with_reducible exact H2_)|with_reducible exact H|(rw [hy206];exact H)|exact H
               have Ny206:=Aside0.mk hy206;clear hy206
               by_cases c72 : y189.length + y206.length < 17592186044416
               ·
                rw [if_pos c72] at H
                have LMc72:=Aside0.mk c72;clear c72
                obtain ⟨y209,hy209⟩ : ∃ y_ : List Int,y_ = (y189 ++ y206):=⟨_,rfl⟩
                replace H : ((spec_l4Count.f kj50 (wrap64 (x4_1 + 2)) false y209).bind fun bt212 => (some (bt212.1,bt212.2.1,bt212.2.2,true))) = some (r1,r2,r3,r4):=by first|(rw [hy209];with_reducible exact H)|(have H2_:=(Option.bind_some _ _).symm.trans H;rw [hy209];with_reducible exact H2_)|(have H2_:=(Option.bind_some _ _).symm.trans H;with_reducible exact H2_)|with_reducible exact H|(rw [hy209];exact H)|exact H
                have Ny209:=Aside0.mk hy209;clear hy209
                replace H:=Option.bind_eq_some_iff.mp H
                obtain ⟨⟨t212,t215,t218⟩,A730,H⟩:=H
                replace H : (some (t212,t215,t218,true)) = some (r1,r2,r3,r4):=H
                have A73:=Aside0.mk A730;clear A730
                simp only [Option.some.injEq,Prod.mk.injEq] at H
                obtain ⟨rfl,rfl,rfl,rfl⟩:=H
                go_wp2_with (first|((with_reducible refine gate_callee (f:=57) rfl ?_);refine goesL_ (some 48) rfl rfl Tryd.func57 (by kernel_rfl) rfl #[.int .i64 x4_1] rfl (by (try simp only [List.map_toArray,List.map_cons,List.map_nil]);first|done|rfl|(simp only [List.length_drop,List.length_take];rfl)) ?_;(with_reducible refine (spec_l1Number.calls kj50 x4_1 t205 _ A69.out).mono ?_);rintro e w74 ⟨rfl,hb⟩;refine ⟨_,rfl,?_⟩;have n0_:=Aside0.mk (Kd.R_below (rU HO_5.out) hb);have n1_:=Aside0.mk (blk_below (g:=gb143) (o:=.cells #[.slice none 0 0,.slice none 0 0,.slice none 0 0] 25 (0,0)) (blkU BK143.out) hb);have n2_:=Aside0.mk (below_step (by repeat (first|(with_reducible first|exact HB.out|apply below_alloc|apply pw_below_drewN|apply below_drew1|refine below_set ?_ GE143.out)|exact HB.out)) hb);clear HO_5 BK143 HB;have HO_5:=n0_;have BK143:=n1_;have HB:=n2_;clear n0_ n1_ n2_;(try clear hb);(try clear hb2);(try clear hk);(try clear hi))|((with_reducible refine gate_dst (N:=54) rfl ?_);refine Kd.R_lit (Kd.int .i64) _ 3 ?hg (N:=54) ?hd (xs:=([1,0] : List Int)) (inner:=[.int .i64 1,.int .i64 0]) (ok:=fun _ => True) (okp:=fun _ => True) ?hr ?hp (fun _ hk => hk) trivial (Below.refl _ _) (Nat.le_refl _) (by simp) ?_;(case hd => rfl);(case hg => rfl);(case hr => first|(go_simp;done)|(go_simp;rfl));(case hp => exact (Reps.one (show Kd.M (Kd.int .i64) _ _ _ 1 [.int .i64 1] from rfl) (Reps.one (show Kd.M (Kd.int .i64) _ _ _ 0 [.int .i64 0] from rfl) (Reps.none _ _))));intro v207 w75 ho76 hb hg_ hnew_;clear hg_ hnew_;(first|rw [← Ny206.out] at ho76|(simp only [Int.reduceToNat] at ho76;rw [← Ny206.out] at ho76));have n0_:=Aside0.mk (Kd.R_elder' (rU HO_5.out) (Kd.R_base ho76) hb);have n1_:=Aside0.mk (Kd.R_lower (Kd.R_new' ho76 (Kd.R_lt (rU HO_5.out))) (below_size (by repeat (first|(with_reducible first|exact HB.out|apply below_alloc|apply pw_below_drewN|apply below_drew1|refine below_set ?_ GE143.out)|exact HB.out))));have n2_:=Aside0.mk (blk_below (g:=gb143) (o:=.cells #[.slice none 0 0,.slice none 0 0,.slice none 0 0] 25 (0,0)) (blkU BK143.out) hb);have n3_:=Aside0.mk (below_step (by repeat (first|(with_reducible first|exact HB.out|apply below_alloc|apply pw_below_drewN|apply below_drew1|refine below_set ?_ GE143.out)|exact HB.out)) hb);clear HO_5 BK143 HB;have HO_5:=n0_;have HO208:=n1_;have BK143:=n2_;have HB:=n3_;clear n0_ n1_ n2_ n3_ hb ho76;obtain ⟨Ao78,co78,eo78⟩:=Kd.R_slice HO208.out;subst eo78)|((with_reducible refine gate_builtin (b:=.append) (xs:=#[.tmp 53,.tmp 54]) rfl ?_);at_builtin;refine Kd.R_append_rows (Kd.int .i64) (w0:=w) w.heap.size rfl (.tmp 53) (.tmp 54) 23 3 (.int .i64 0) 8 rfl Tryd.underlying23 info3 rfl (by decide) (by omega) v190 y189 y206 _ _ _ (fun k_ => some k_ ≠ (.slice Ao78 y206.length co78 : Value).ownBlock) (fun _ => False) rfl rfl ?aO ?aR (fun _ _ h => h) (fun _ h => h.elim) ?aF ?aB ?aS ?aL ?_;(case aR => exact cU (Kd.R_reads' HO208.out).2.2);(case aB => exact (by repeat (first|(with_reducible first|exact HB.out|apply below_alloc|apply pw_below_drewN|apply below_drew1|refine below_set ?_ GE143.out)|exact HB.out)));(case aF => exact (fun k_ hk => Kd.fresh' (Kd.R_lt (rU HO208.out)) k_ hk));(case aO => exact (by (with_reducible repeat (first|apply Kd.R_alloc|apply Kd.R_drewN|apply Kd.R_drew));exact Kd.R_mono HO_5.out (fun _ hk => hk.2)));(case aS => exact (below_size (by repeat (first|(with_reducible first|exact HB.out|apply below_alloc|apply pw_below_drewN|apply below_drew1|refine below_set ?_ GE143.out)|exact HB.out))));(case aL => have:=LMc72.out;omega);intro v210 w77 ho hb hg hat;rw [← Ny209.out] at ho;have n0_:=Aside0.mk (blk_grown (g:=gb143) (o:=.cells #[.slice none 0 0,.slice none 0 0,.slice none 0 0] 25 (0,0)) (blkU BK143.out) hg (Kd.R_ne HO_5.out BK143.out (by decide)));have n1_:=Aside0.mk (Kd.R_after (ok:=(fun _ => True)) (rU HO208.out) hg hat);have n2_:=Aside0.mk (hb);have n3_:=Aside0.mk (ho);clear BK143 HO208 HB HO_5;have BK143:=n0_;have HO208:=n1_;have HB:=n2_;have HO211:=n3_;clear n0_ n1_ n2_ n3_ ho hb hg hat;obtain ⟨Ao79,co79,eo79⟩:=Kd.R_slice HO211.out;subst eo79)|((with_reducible refine gate_callee (f:=37) rfl ?_);refine goesL_ (some 56) rfl rfl Tryd.func37 (by kernel_rfl) rfl #[.int .i64 (wrap64 (x4_1 + 2)),.bool false,.slice Ao79 y209.length co79] rfl (by (try simp only [List.map_toArray,List.map_cons,List.map_nil]);first|done|rfl|(simp only [List.length_drop,List.length_take];rfl)) ?_;(with_reducible refine (spec_l4Count.calls kj50 (wrap64 (x4_1 + 2)) false _ _ y209 t212 t215 t218 _ _ _ (rU HO211.out) A73.out).mono ?_);rintro e w80 ⟨v213,v216,v219,rfl,ho0,ho1,ho2,hb⟩;refine ⟨_,rfl,?_⟩;have n0_:=Aside0.mk (Kd.R_told (Kd.R_told (Kd.R_old (rU HO208.out) hb) (Kd.R_base ho0)) (Kd.R_base ho1));have n1_:=Aside0.mk (Kd.R_told (Kd.R_told (Kd.R_old (rU HO211.out) hb) (Kd.R_base ho0)) (Kd.R_base ho1));have n2_:=Aside0.mk (Kd.R_lower (Kd.R_new' (Kd.R_new' ho0 (Kd.R_lt (rU HO208.out))) (Kd.R_lt (rU HO211.out))) (below_size (by repeat (first|(with_reducible first|exact HB.out|apply below_alloc|apply pw_below_drewN|apply below_drew1|refine below_set ?_ GE143.out)|exact HB.out))));have n3_:=Aside0.mk (Kd.R_lower (Kd.R_new' (Kd.R_new' ho1 (Kd.R_lt (rU HO208.out))) (Kd.R_lt (rU HO211.out))) (below_size (by repeat (first|(with_reducible first|exact HB.out|apply below_alloc|apply pw_below_drewN|apply below_drew1|refine below_set ?_ GE143.out)|exact HB.out))));have n4_:=Aside0.mk (Kd.R_mono (ok':=fun k_ => ((some k_ ≠ Value.ownBlock v213 ∧ some k_ ≠ Value.ownBlock v216) ∧ True) ∧ True) ho2 (fun _ h_ => ⟨⟨h_,trivial⟩,trivial⟩));have n5_:=Aside0.mk (blk_below (g:=gb143) (o:=.cells #[.slice none 0 0,.slice none 0 0,.slice none 0 0] 25 (0,0)) (blkU BK143.out) hb);have n6_:=Aside0.mk (below_step (by repeat (first|(with_reducible first|exact HB.out|apply below_alloc|apply pw_below_drewN|apply below_drew1|refine below_set ?_ GE143.out)|exact HB.out)) hb);clear HO208 HO211 BK143 HB;have HO208:=n0_;have HO211:=n1_;have HO214:=n2_;have HO217:=n3_;have HO220:=n4_;have BK143:=n5_;have HB:=n6_;clear n0_ n1_ n2_ n3_ n4_ n5_ n6_;(try clear hb);(try clear hb2);(try clear hk);(try clear hi);(try clear ho0);(try clear ho1);(try clear ho2);obtain ⟨Ao81,co81,eo81⟩:=Kd.R_slice HO214.out;subst eo81;have hcz82_0 : w80.cell? ⟨gb143,0,none⟩ = some (.slice none 0 0):=(blk_cell BK143.out 0).trans rfl;have hcz82_1 : w80.cell? ⟨gb143,1,none⟩ = some (.slice none 0 0):=(blk_cell BK143.out 1).trans rfl;have hcz82_2 : w80.cell? ⟨gb143,2,none⟩ = some (.slice none 0 0):=(blk_cell BK143.out 2).trans rfl;have hfz82_0:=blk_frozen BK143.out 0;have hfz82_1:=blk_frozen BK143.out 1;have hfz82_2:=blk_frozen BK143.out 2;obtain ⟨Ao83,co83,eo83⟩:=Kd.R_slice HO217.out;subst eo83;obtain ⟨Ao84,co84,eo84⟩:=Kd.R_slice HO220.out;subst eo84))
                refine bodyPost_ret (results_ct rfl _ _ gb143 25 #[.slice Ao81 t212.length co81,.slice Ao83 t215.length co83,.slice Ao84 t218.length co84] (0,0) _ rfl (by (with_reducible repeat (first|refine blk_drewN ?_ _|refine blk_drew ?_|refine blk_alloc ?_ _));refine blk_put (cs:=#[.slice Ao81 t212.length co81,.slice Ao83 t215.length co83,.slice none 0 0]) ?_ 2 _ rfl;(with_reducible repeat (first|refine blk_drewN ?_ _|refine blk_drew ?_|refine blk_alloc ?_ _));refine blk_put (cs:=#[.slice Ao81 t212.length co81,.slice none 0 0,.slice none 0 0]) ?_ 1 _ rfl;(with_reducible repeat (first|refine blk_drewN ?_ _|refine blk_drew ?_|refine blk_alloc ?_ _));refine blk_put (cs:=#[.slice none 0 0,.slice none 0 0,.slice none 0 0]) ?_ 0 _ rfl;(with_reducible repeat (first|refine blk_drewN ?_ _|refine blk_drew ?_|refine blk_alloc ?_ _));exact BK143.out) Tryd.underlying25 rfl (by kernel_rfl)) rfl ?_
                exact ⟨_,_,_,by first|rfl|(simp [errW_none,errW_some] <;> rfl)|(simp [*,errW_none,errW_some] <;> rfl),by (with_reducible repeat (first|apply Kd.R_alloc|apply Kd.R_drewN|apply Kd.R_drew));exact Kd.R_mono (Kd.R_far (p:=⟨gb143,2,none⟩) (Kd.R_far (p:=⟨gb143,1,none⟩) (Kd.R_far (p:=⟨gb143,0,none⟩) (Kd.R_types HO214.out BK143.out (by decide)) (fun _ hk => hk.2) (.slice Ao81 t212.length co81)) (fun _ hk => hk.2) (.slice Ao83 t215.length co83)) (fun _ hk => hk.2) (.slice Ao84 t218.length co84)) (fun _ hk => ⟨hk.1.1.1.1,hk.1.1.1.2⟩),by (with_reducible repeat (first|apply Kd.R_alloc|apply Kd.R_drewN|apply Kd.R_drew));exact Kd.R_mono (Kd.R_far (p:=⟨gb143,2,none⟩) (Kd.R_far (p:=⟨gb143,1,none⟩) (Kd.R_far (p:=⟨gb143,0,none⟩) (Kd.R_types HO217.out BK143.out (by decide)) (fun _ hk => hk.2) (.slice Ao81 t212.length co81)) (fun _ hk => hk.2) (.slice Ao83 t215.length co83)) (fun _ hk => hk.2) (.slice Ao84 t218.length co84)) (fun _ hk => ⟨hk.1.1.1.1,hk.1.1.1.2⟩),by (with_reducible repeat (first|apply Kd.R_alloc|apply Kd.R_drewN|apply Kd.R_drew));exact Kd.R_mono (Kd.R_far (p:=⟨gb143,2,none⟩) (Kd.R_far (p:=⟨gb143,1,none⟩) (Kd.R_far (p:=⟨gb143,0,none⟩) (Kd.R_types HO220.out BK143.out (by decide)) (fun _ hk => hk.2) (.slice Ao81 t212.length co81)) (fun _ hk => hk.2) (.slice Ao83 t215.length co83)) (fun _ hk => hk.2) (.slice Ao84 t218.length co84)) (fun _ hk => ⟨hk.1.1.1.1,hk.1.1.1.2⟩),by repeat (first|(with_reducible first|exact HB.out|apply below_alloc|apply pw_below_drewN|apply below_drew1|refine below_set ?_ GE143.out)|exact HB.out)⟩
               ·
                rw [if_neg c72] at H
                exact absurd H (by simp)
              ·
               rw [if_neg c71] at H
               have c71b0 : (a0.toList == ((⟨#[106,117,115,116]⟩ : ByteArray) ++ t205).toList) = false:=beq_eq_false_iff_ne.mpr c71
               have c71b1 : (a0.toList != ((⟨#[106,117,115,116]⟩ : ByteArray) ++ t205).toList) = true:=bne_iff_ne.mpr c71
               have H':=Aside0.mk H;clear H
               go_wp2_with (first|((with_reducible refine gate_callee (f:=57) rfl ?_);refine goesL_ (some 48) rfl rfl Tryd.func57 (by kernel_rfl) rfl #[.int .i64 x4_1] rfl (by (try simp only [List.map_toArray,List.map_cons,List.map_nil]);first|done|rfl|(simp only [List.length_drop,List.length_take];rfl)) ?_;(with_reducible refine (spec_l1Number.calls kj50 x4_1 t205 _ A69.out).mono ?_);rintro e w85 ⟨rfl,hb⟩;refine ⟨_,rfl,?_⟩;have n0_:=Aside0.mk (Kd.R_below (rU HO_5.out) hb);have n1_:=Aside0.mk (blk_below (g:=gb143) (o:=.cells #[.slice none 0 0,.slice none 0 0,.slice none 0 0] 25 (0,0)) (blkU BK143.out) hb);have n2_:=Aside0.mk (below_step (by repeat (first|(with_reducible first|exact HB.out|apply below_alloc|apply pw_below_drewN|apply below_drew1|refine below_set ?_ GE143.out)|exact HB.out)) hb);clear HO_5 BK143 HB;have HO_5:=n0_;have BK143:=n1_;have HB:=n2_;clear n0_ n1_ n2_;(try clear hb);(try clear hb2);(try clear hk);(try clear hi)))
               go_roundg kj50
               case measure => have:=HK1.out;have:=HJ50.out;omega
               case rel => exact ⟨(wrap64 (x4_1 + 1)),(by first|rfl|(simp;done)|(simp [*];done)),H',⟨by have:=HK1.out;have:=HJ50.out;omega⟩,⟨blkU BK143.out⟩,⟨by repeat (first|(with_reducible first|exact HB.out|apply below_alloc|apply pw_below_drewN|apply below_drew1|refine below_set ?_ GE143.out)|exact HB.out)⟩⟩
             ·
              rw [if_neg c70] at H
              exact absurd H (by simp)
         ·
          rw [if_neg c50] at H
          exact absurd H (by simp)
        ·
         rw [if_neg c49] at H
         exact absurd H (by simp)
       ·
        rw [if_neg c48] at H
        have c48b0 : decide (x4_1 ≤ 5) = false:=decide_eq_false c48;clear c48
        simp only [Option.some.injEq,Prod.mk.injEq] at H
        obtain ⟨rfl,rfl,rfl,rfl⟩:=H
        have hcz86_0 : wr.cell? ⟨gb143,0,none⟩ = some (.slice none 0 0):=(blk_cell BK143.out 0).trans rfl
        have hcz86_1 : wr.cell? ⟨gb143,1,none⟩ = some (.slice none 0 0):=(blk_cell BK143.out 1).trans rfl
        have hcz86_2 : wr.cell? ⟨gb143,2,none⟩ = some (.slice none 0 0):=(blk_cell BK143.out 2).trans rfl
        have hfz86_0:=blk_frozen BK143.out 0
        have hfz86_1:=blk_frozen BK143.out 1
        have hfz86_2:=blk_frozen BK143.out 2
        go_wp2
        refine bodyPost_ret (results_ct rfl _ _ gb143 25 #[.slice none 0 0,.slice none 0 0,.slice none 0 0] (0,0) _ rfl (by (with_reducible repeat (first|refine blk_drewN ?_ _|refine blk_drew ?_|refine blk_alloc ?_ _));refine blk_put (cs:=#[.slice none 0 0,.slice none 0 0,.slice none 0 0]) ?_ 2 _ rfl;(with_reducible repeat (first|refine blk_drewN ?_ _|refine blk_drew ?_|refine blk_alloc ?_ _));refine blk_put (cs:=#[.slice none 0 0,.slice none 0 0,.slice none 0 0]) ?_ 1 _ rfl;(with_reducible repeat (first|refine blk_drewN ?_ _|refine blk_drew ?_|refine blk_alloc ?_ _));refine blk_put (cs:=#[.slice none 0 0,.slice none 0 0,.slice none 0 0]) ?_ 0 _ rfl;(with_reducible repeat (first|refine blk_drewN ?_ _|refine blk_drew ?_|refine blk_alloc ?_ _));exact BK143.out) Tryd.underlying25 rfl (by kernel_rfl)) rfl ?_
        exact ⟨_,_,_,by first|rfl|(simp [errW_none,errW_some] <;> rfl)|(simp [*,errW_none,errW_some] <;> rfl),by first|exact Kd.R_nil _ _ _ _ _|exact Kd.N_nil _ _ _ _ _|exact Kd.V_nil _ _ _ _ _|exact Kd.Q_nil _ _ _ _ _|exact Kd.S_nil _ _ _ _ _,by first|exact Kd.R_nil _ _ _ _ _|exact Kd.N_nil _ _ _ _ _|exact Kd.V_nil _ _ _ _ _|exact Kd.Q_nil _ _ _ _ _|exact Kd.S_nil _ _ _ _ _,by first|exact Kd.R_nil _ _ _ _ _|exact Kd.N_nil _ _ _ _ _|exact Kd.V_nil _ _ _ _ _|exact Kd.Q_nil _ _ _ _ _|exact Kd.S_nil _ _ _ _ _,by repeat (first|(with_reducible first|exact HB.out|apply below_alloc|apply pw_below_drewN|apply below_drew1|refine below_set ?_ GE143.out)|exact HB.out)⟩

end Go.Proofs.YthodcgkhianecaaDoor.PA
