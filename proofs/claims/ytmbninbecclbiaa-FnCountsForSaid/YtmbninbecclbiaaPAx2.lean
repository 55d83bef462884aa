/- The machine side of functions of this seat, written by the session's program myprint.py: for each Go function a Lean function and the proof that the call answers just it. -/
import Derived.Test.YtmbninbecclbiaaPAx0
import Derived.Test.YtmbninbecclbiaaUp
import Derived.Test.YtmbninbecclbiaaPAx1
namespace Go.Proofs.Ytmbninbecclbiaa.PA
open Go.RowKit Go.Proofs.YtmbninbecclbiaaW.PrintWords Go.Proofs.YtmbninbecclbiaaW.PrintLast Go.Proofs.YtmbninbecclbiaaW.PrintMore
attribute [local go_sem] max2_int min2_int max_two min_two max_three min_three max_four min_four   -- for this text's walks alone
set_option linter.unusedVariables false
set_option linter.unusedSimpArgs false

/-! ### spec_l6Row: function 52 -/
mutual
def spec_l6Row.l0 : Nat → List Int → Int → Int → Int → Int → Option (List Int × Bool)
 | 0,_,_,_,_,_ => none
 | k + 1,x4,x5,x106000,x106001,x106002 => if x5 < 4 then ((spec_l5Is.f x5 x106001).bind fun t109 => (if t109 = true then (spec_l6Row.j1 k x4 x5 1 0 x106000 x106001 x106002) else (spec_l6Row.j1 k x4 x5 0 0 x106000 x106001 x106002))) else (if x106000 = 1 then (some (x4,true)) else (if x106000 = 3 then (some (x4,true)) else (some (x4,(x106000 == 4)))))
def spec_l6Row.j1 : Nat → List Int → Int → Int → Int → Int → Int → Int → Option (List Int × Bool)
 | 0,_,_,_,_,_,_,_ => none
 | k + 1,x4,x5,x6,x7,x106000,x106001,x106002 => (spec_l5Is.f x5 x106002).bind fun t110 => (if t110 = true then (spec_l6Row.j2 k x4 x5 x6 1 x106000 x106001 x106002) else (spec_l6Row.j2 k x4 x5 x6 x7 x106000 x106001 x106002))
def spec_l6Row.j2 : Nat → List Int → Int → Int → Int → Int → Int → Int → Option (List Int × Bool)
 | 0,_,_,_,_,_,_,_ => none
 | k + 1,x4,x5,x6,x7,x106000,x106001,x106002 => if x106000 = 0 then (if x4.length < 17592186044416 then (spec_l6Row.l0 k (x4 ++ [wrap64 ((wrap64 (-x6)) * (wrap64 (1 - x7)))]) (wrap64 (x5 + 1)) x106000 x106001 x106002) else (none)) else (if x106000 = 1 then (if x4.length < 17592186044416 then (spec_l6Row.l0 k (x4 ++ [wrap64 (x6 * x7)]) (wrap64 (x5 + 1)) x106000 x106001 x106002) else (none)) else (if x106000 = 2 then (spec_l6Row.j3 k x4 x5 x6 x7 x106000 (x106000 == 2) x106000 x106001 x106002) else (spec_l6Row.j3 k x4 x5 x6 x7 x106000 (x106000 == 3) x106000 x106001 x106002)))
def spec_l6Row.j3 : Nat → List Int → Int → Int → Int → Int → Bool → Int → Int → Int → Option (List Int × Bool)
 | 0,_,_,_,_,_,_,_,_,_ => none
 | k + 1,x4,x5,x6,x7,x22,x49,x106000,x106001,x106002 => if x49 = true then (if x4.length < 17592186044416 then (spec_l6Row.l0 k (x4 ++ [wrap64 (x6 - x7)]) (wrap64 (x5 + 1)) x106000 x106001 x106002) else (none)) else (if x22 = 4 then (if x4.length < 17592186044416 then (spec_l6Row.l0 k (x4 ++ [wrap64 (x6 * (wrap64 ((wrap64 (2 * x7)) - 1)))]) (wrap64 (x5 + 1)) x106000 x106001 x106002) else (none)) else (if x4.length < 17592186044416 then (spec_l6Row.l0 k (x4 ++ [wrap64 (x6 * (wrap64 (1 - (wrap64 (2 * x7)))))]) (wrap64 (x5 + 1)) x106000 x106001 x106002) else (none)))
end
def spec_l6Row.f (k : Nat) (a0_0 : Int) (a0_1 : Int) (a0_2 : Int) : Option (List Int × Bool):=spec_l6Row.l0 k (([] : List Int)) 0 a0_0 a0_1 a0_2
theorem spec_l6Row.mono_l : ∀ k,(∀ y0 y1 y2 y3 y4,LeO (spec_l6Row.l0 k y0 y1 y2 y3 y4) (spec_l6Row.l0 (k + 1) y0 y1 y2 y3 y4)) ∧ (∀ y0 y1 y2 y3 y4 y5 y6,LeO (spec_l6Row.j1 k y0 y1 y2 y3 y4 y5 y6) (spec_l6Row.j1 (k + 1) y0 y1 y2 y3 y4 y5 y6)) ∧ (∀ y0 y1 y2 y3 y4 y5 y6,LeO (spec_l6Row.j2 k y0 y1 y2 y3 y4 y5 y6) (spec_l6Row.j2 (k + 1) y0 y1 y2 y3 y4 y5 y6)) ∧ (∀ y0 y1 y2 y3 y4 y5 y6 y7 y8,LeO (spec_l6Row.j3 k y0 y1 y2 y3 y4 y5 y6 y7 y8) (spec_l6Row.j3 (k + 1) y0 y1 y2 y3 y4 y5 y6 y7 y8))
 | 0 => ⟨fun _ _ _ _ _ r h => by simp [spec_l6Row.l0] at h,fun _ _ _ _ _ _ _ r h => by simp [spec_l6Row.j1] at h,fun _ _ _ _ _ _ _ r h => by simp [spec_l6Row.j2] at h,fun _ _ _ _ _ _ _ _ _ r h => by simp [spec_l6Row.j3] at h⟩
 | k + 1 => by
  obtain ⟨ih0,ih1,ih2,ih3⟩:=spec_l6Row.mono_l k
  refine ⟨?_,?_,?_,?_⟩
  ·
   intro y0 y1 y2 y3 y4
   unfold spec_l6Row.l0
   repeat' first
   | (with_reducible exact ih0 _ _ _ _ _)
   | (with_reducible exact ih1 _ _ _ _ _ _ _)
   | (with_reducible exact ih2 _ _ _ _ _ _ _)
   | (with_reducible exact ih3 _ _ _ _ _ _ _ _ _)
   | (with_reducible exact LeO.refl _)
   | (with_reducible exact LeO.none _)
   | (with_reducible refine LeO.ite ?_ ?_)
   | (with_reducible refine LeO.bind ?_ (fun _ => ?_))
   | exact ih0 _ _ _ _ _
   | exact ih1 _ _ _ _ _ _ _
   | exact ih2 _ _ _ _ _ _ _
   | exact ih3 _ _ _ _ _ _ _ _ _
   | exact LeO.none _
   | refine LeO.ite ?_ ?_
   | refine LeO.bind ?_ (fun _ => ?_)
  ·
   intro y0 y1 y2 y3 y4 y5 y6
   unfold spec_l6Row.j1
   repeat' first
   | (with_reducible exact ih0 _ _ _ _ _)
   | (with_reducible exact ih1 _ _ _ _ _ _ _)
   | (with_reducible exact ih2 _ _ _ _ _ _ _)
   | (with_reducible exact ih3 _ _ _ _ _ _ _ _ _)
   | (with_reducible exact LeO.refl _)
   | (with_reducible exact LeO.none _)
   | (with_reducible refine LeO.ite ?_ ?_)
   | (with_reducible refine LeO.bind ?_ (fun _ => ?_))
   | exact ih0 _ _ _ _ _
   | exact ih1 _ _ _ _ _ _ _
   | exact ih2 _ _ _ _ _ _ _
   | exact ih3 _ _ _ _ _ _ _ _ _
   | exact LeO.none _
   | refine LeO.ite ?_ ?_
   | refine LeO.bind ?_ (fun _ => ?_)
  ·
   intro y0 y1 y2 y3 y4 y5 y6
   unfold spec_l6Row.j2
   repeat' first
   | (with_reducible exact ih0 _ _ _ _ _)
   | (with_reducible exact ih1 _ _ _ _ _ _ _)
   | (with_reducible exact ih2 _ _ _ _ _ _ _)
   | (with_reducible exact ih3 _ _ _ _ _ _ _ _ _)
   | (with_reducible exact LeO.refl _)
   | (with_reducible exact LeO.none _)
   | (with_reducible refine LeO.ite ?_ ?_)
   | (with_reducible refine LeO.bind ?_ (fun _ => ?_))
   | exact ih0 _ _ _ _ _
   | exact ih1 _ _ _ _ _ _ _
   | exact ih2 _ _ _ _ _ _ _
   | exact ih3 _ _ _ _ _ _ _ _ _
   | exact LeO.none _
   | refine LeO.ite ?_ ?_
   | refine LeO.bind ?_ (fun _ => ?_)
  ·
   intro y0 y1 y2 y3 y4 y5 y6 y7 y8
   unfold spec_l6Row.j3
   repeat' first
   | (with_reducible exact ih0 _ _ _ _ _)
   | (with_reducible exact ih1 _ _ _ _ _ _ _)
   | (with_reducible exact ih2 _ _ _ _ _ _ _)
   | (with_reducible exact ih3 _ _ _ _ _ _ _ _ _)
   | (with_reducible exact LeO.refl _)
   | (with_reducible exact LeO.none _)
   | (with_reducible refine LeO.ite ?_ ?_)
   | (with_reducible refine LeO.bind ?_ (fun _ => ?_))
   | exact ih0 _ _ _ _ _
   | exact ih1 _ _ _ _ _ _ _
   | exact ih2 _ _ _ _ _ _ _
   | exact ih3 _ _ _ _ _ _ _ _ _
   | exact LeO.none _
   | refine LeO.ite ?_ ?_
   | refine LeO.bind ?_ (fun _ => ?_)
theorem spec_l6Row.mono : ∀ a0 a1 a2 k,LeO (spec_l6Row.f k a0 a1 a2) (spec_l6Row.f (k + 1) a0 a1 a2):=by
 intro a0 a1 a2 k
 obtain ⟨ih0,ih1,ih2,ih3⟩:=spec_l6Row.mono_l k
 unfold spec_l6Row.f
 repeat' first
   | (with_reducible exact ih0 _ _ _ _ _)
   | (with_reducible exact ih1 _ _ _ _ _ _ _)
   | (with_reducible exact ih2 _ _ _ _ _ _ _)
   | (with_reducible exact ih3 _ _ _ _ _ _ _ _ _)
   | (with_reducible exact LeO.refl _)
   | (with_reducible exact LeO.none _)
   | (with_reducible refine LeO.ite ?_ ?_)
   | (with_reducible refine LeO.bind ?_ (fun _ => ?_))
   | exact ih0 _ _ _ _ _
   | exact ih1 _ _ _ _ _ _ _
   | exact ih2 _ _ _ _ _ _ _
   | exact ih3 _ _ _ _ _ _ _ _ _
   | exact LeO.none _
   | refine LeO.ite ?_ ?_
   | refine LeO.bind ?_ (fun _ => ?_)
set_option maxHeartbeats 8000000 in
set_option maxRecDepth 100000 in
theorem spec_l6Row.calls (k : Nat) (a0_0 : Int) (a0_1 : Int) (a0_2 : Int) (r1 : List Int) (r2 : Bool) (w : World) (h : spec_l6Row.f k a0_0 a0_1 a0_2 = some (r1,r2)) :
  Calls Try.prog 52 #[.agg #[.int .i64 a0_0,.int .i64 a0_1,.int .i64 a0_2]] w fun e w' => ∃ v0_ : Value,e = .returned (.tuple #[v0_,.bool r2]) ∧ Kd.R (Kd.int .i64) 3 w' w.heap.size (fun _ => True) v0_ r1 ∧ Below w.heap.size w w':=by
 have hu29:=Try.underlying29;have HB:=Aside0.mk (Below.refl w.heap.size w)
 have H : (spec_l6Row.l0 k (([] : List Int)) 0 a0_0 a0_1 a0_2) = some (r1,r2):=h;clear h
 obtain ⟨y106,hy106⟩ : ∃ y_ : List Int,y_ = (([] : List Int)):=⟨_,rfl⟩
 replace H : (spec_l6Row.l0 k y106 0 a0_0 a0_1 a0_2) = some (r1,r2):=by first|(rw [hy106];with_reducible exact H)|(have H2_:=(Option.bind_some _ _).symm.trans H;rw [hy106];with_reducible exact H2_)|(have H2_:=(Option.bind_some _ _).symm.trans H;with_reducible exact H2_)|with_reducible exact H|(rw [hy106];exact H)|exact H
 have Ny106:=Aside0.mk hy106;clear hy106
 have H':=Aside0.mk H;clear H
 go_enter Try.func52,Try.ntmps52
 go_wp2_with (first|((with_reducible refine gate_dst (N:=1) rfl ?_);refine box_event ?hg (N:=1) ?hd (cs:=#[.int .i64 a0_0,.int .i64 a0_1,.int .i64 a0_2]) (t:=29) ?hr ?_;(case hd => rfl);(case hg => rfl);(case hr => first|(go_simp;done)|(go_simp;rfl));intro gb105 hg w2 hbox hb;have n0_:=Aside0.mk (below_step (belU HB.out) hb);have n1_:=Aside0.mk (hbox);have n2_:=Aside0.mk ((by rw [hg];exact (below_size (belU HB.out)) : w.heap.size ≤ gb105));have n3_:=Aside0.mk ((by rw [hg];exact (below_size (belU HB.out)) : w.heap.size ≤ gb105));clear HB;have HB:=n0_;have BK105:=n1_;have GW105:=n2_;have GE105:=n3_;clear n0_ n1_ n2_ n3_ hb hbox hg)|((with_reducible refine gate_dst (N:=8) rfl ?_);refine Kd.R_lit (Kd.int .i64) _ 3 ?hg (N:=8) ?hd (xs:=([] : List Int)) (inner:=[]) (ok:=fun _ => True) (okp:=fun _ => True) ?hr ?hp (fun _ hk => hk) trivial (Below.refl _ _) (Nat.le_refl _) (by simp) ?_;(case hd => rfl);(case hg => rfl);(case hr => first|(go_simp;done)|(go_simp;rfl));(case hp => exact (Reps.none _ _));intro v107 w3 ho4 hb hg_ hnew_;clear hg_ hnew_;(first|rw [← Ny106.out] at ho4|(simp only [Int.reduceToNat] at ho4;rw [← Ny106.out] at ho4));have n0_:=Aside0.mk (Kd.R_lower ho4 (below_size (by repeat (first|(with_reducible first|exact HB.out|apply below_alloc|apply pw_below_drewN|apply below_drew1|refine below_set ?_ GE105.out)|exact HB.out))));have n1_:=Aside0.mk (blk_below (g:=gb105) (o:=.cells #[.int .i64 a0_0,.int .i64 a0_1,.int .i64 a0_2] 29 (0,0)) (blkU BK105.out) hb);have n2_:=Aside0.mk (below_step (by repeat (first|(with_reducible first|exact HB.out|apply below_alloc|apply pw_below_drewN|apply below_drew1|refine below_set ?_ GE105.out)|exact HB.out)) hb);clear BK105 HB;have HO108:=n0_;have BK105:=n1_;have HB:=n2_;clear n0_ n1_ n2_ hb ho4))
 repeat (go_quiet (first|((with_reducible refine gate_dst (N:=1) rfl ?_);refine box_event ?hg (N:=1) ?hd (cs:=#[.int .i64 a0_0,.int .i64 a0_1,.int .i64 a0_2]) (t:=29) ?hr ?_;(case hd => rfl);(case hg => rfl);(case hr => first|(go_simp;done)|(go_simp;rfl));intro gb105 hg w2 hbox hb;have n0_:=Aside0.mk (below_step (belU HB.out) hb);have n1_:=Aside0.mk (hbox);have n2_:=Aside0.mk ((by rw [hg];exact (below_size (belU HB.out)) : w.heap.size ≤ gb105));have n3_:=Aside0.mk ((by rw [hg];exact (below_size (belU HB.out)) : w.heap.size ≤ gb105));clear HB;have HB:=n0_;have BK105:=n1_;have GW105:=n2_;have GE105:=n3_;clear n0_ n1_ n2_ n3_ hb hbox hg)|((with_reducible refine gate_dst (N:=8) rfl ?_);refine Kd.R_lit (Kd.int .i64) _ 3 ?hg (N:=8) ?hd (xs:=([] : List Int)) (inner:=[]) (ok:=fun _ => True) (okp:=fun _ => True) ?hr ?hp (fun _ hk => hk) trivial (Below.refl _ _) (Nat.le_refl _) (by simp) ?_;(case hd => rfl);(case hg => rfl);(case hr => first|(go_simp;done)|(go_simp;rfl));(case hp => exact (Reps.none _ _));intro v107 w3 ho4 hb hg_ hnew_;clear hg_ hnew_;(first|rw [← Ny106.out] at ho4|(simp only [Int.reduceToNat] at ho4;rw [← Ny106.out] at ho4));have n0_:=Aside0.mk (Kd.R_lower ho4 (below_size (by repeat (first|(with_reducible first|exact HB.out|apply below_alloc|apply pw_below_drewN|apply below_drew1|refine below_set ?_ GE105.out)|exact HB.out))));have n1_:=Aside0.mk (blk_below (g:=gb105) (o:=.cells #[.int .i64 a0_0,.int .i64 a0_1,.int .i64 a0_2] 29 (0,0)) (blkU BK105.out) hb);have n2_:=Aside0.mk (below_step (by repeat (first|(with_reducible first|exact HB.out|apply below_alloc|apply pw_below_drewN|apply below_drew1|refine below_set ?_ GE105.out)|exact HB.out)) hb);clear BK105 HB;have HO108:=n0_;have BK105:=n1_;have HB:=n2_;clear n0_ n1_ n2_ hb ho4));try go_wp2_with (first|((with_reducible refine gate_dst (N:=1) rfl ?_);refine box_event ?hg (N:=1) ?hd (cs:=#[.int .i64 a0_0,.int .i64 a0_1,.int .i64 a0_2]) (t:=29) ?hr ?_;(case hd => rfl);(case hg => rfl);(case hr => first|(go_simp;done)|(go_simp;rfl));intro gb105 hg w2 hbox hb;have n0_:=Aside0.mk (below_step (belU HB.out) hb);have n1_:=Aside0.mk (hbox);have n2_:=Aside0.mk ((by rw [hg];exact (below_size (belU HB.out)) : w.heap.size ≤ gb105));have n3_:=Aside0.mk ((by rw [hg];exact (below_size (belU HB.out)) : w.heap.size ≤ gb105));clear HB;have HB:=n0_;have BK105:=n1_;have GW105:=n2_;have GE105:=n3_;clear n0_ n1_ n2_ n3_ hb hbox hg)|((with_reducible refine gate_dst (N:=8) rfl ?_);refine Kd.R_lit (Kd.int .i64) _ 3 ?hg (N:=8) ?hd (xs:=([] : List Int)) (inner:=[]) (ok:=fun _ => True) (okp:=fun _ => True) ?hr ?hp (fun _ hk => hk) trivial (Below.refl _ _) (Nat.le_refl _) (by simp) ?_;(case hd => rfl);(case hg => rfl);(case hr => first|(go_simp;done)|(go_simp;rfl));(case hp => exact (Reps.none _ _));intro v107 w3 ho4 hb hg_ hnew_;clear hg_ hnew_;(first|rw [← Ny106.out] at ho4|(simp only [Int.reduceToNat] at ho4;rw [← Ny106.out] at ho4));have n0_:=Aside0.mk (Kd.R_lower ho4 (below_size (by repeat (first|(with_reducible first|exact HB.out|apply below_alloc|apply pw_below_drewN|apply below_drew1|refine below_set ?_ GE105.out)|exact HB.out))));have n1_:=Aside0.mk (blk_below (g:=gb105) (o:=.cells #[.int .i64 a0_0,.int .i64 a0_1,.int .i64 a0_2] 29 (0,0)) (blkU BK105.out) hb);have n2_:=Aside0.mk (below_step (by repeat (first|(with_reducible first|exact HB.out|apply below_alloc|apply pw_below_drewN|apply below_drew1|refine below_set ?_ GE105.out)|exact HB.out)) hb);clear BK105 HB;have HO108:=n0_;have BK105:=n1_;have HB:=n2_;clear n0_ n1_ n2_ hb ho4)))
 go_loopg [4,5] k (fun kq v4 v5 w' => ∃ (x4_1 : List Int) (x5_1 : Int),v5 = .int .i64 x5_1 ∧ Aside0 (spec_l6Row.l0 kq x4_1 x5_1 a0_0 a0_1 a0_2 = some (r1,r2)) ∧ Aside0 (kq ≤ k) ∧ Aside0 (Kd.R (Kd.int .i64) 3 w' w.heap.size (fun _ => True) v4 x4_1) ∧ Aside0 (w'.heap[gb105]? = some (.cells #[.int .i64 a0_0,.int .i64 a0_1,.int .i64 a0_2] 29 (0,0))) ∧ Aside0 (Below w.heap.size w w'))
 case atStart => exact ⟨(y106),(0),(by first|rfl|(simp;done)|(simp [*];done)),H',⟨Nat.le_refl _⟩,⟨rU HO108.out⟩,⟨blkU BK105.out⟩,⟨by repeat (first|(with_reducible first|exact HB.out|apply below_alloc|apply pw_below_drewN|apply below_drew1|refine below_set ?_ GE105.out)|exact HB.out)⟩⟩
 case round =>
  clear H'
  try clear p2
  obtain ⟨x4_1,x5_1,rfl,HA,HK1,HO_4,BK105,HB⟩:=hrel
  cases gk with
  | zero => exact absurd HA.out (by simp [spec_l6Row.l0])
  | succ k1 =>
   have H:=HA.out;clear HA
   simp only [spec_l6Row.l0] at H
   by_cases c5 : x5_1 < 4
   ·
    rw [if_pos c5] at H
    have c5b0 : decide (x5_1 < 4) = true:=decide_eq_true c5;clear c5
    replace H:=Option.bind_eq_some_iff.mp H
    obtain ⟨t109,A60,H⟩:=H
    replace H : (if t109 = true then (spec_l6Row.j1 k1 x4_1 x5_1 1 0 a0_0 a0_1 a0_2) else (spec_l6Row.j1 k1 x4_1 x5_1 0 0 a0_0 a0_1 a0_2)) = some (r1,r2):=H
    have A6:=Aside0.mk A60;clear A60
    have HC7:=Aside0.mk H;clear H
    have hcz8_0 : wr.cell? ⟨gb105,0,none⟩ = some (.int .i64 a0_0):=(blk_cell BK105.out 0).trans rfl
    have hcz8_1 : wr.cell? ⟨gb105,1,none⟩ = some (.int .i64 a0_1):=(blk_cell BK105.out 1).trans rfl
    have hcz8_2 : wr.cell? ⟨gb105,2,none⟩ = some (.int .i64 a0_2):=(blk_cell BK105.out 2).trans rfl
    have hfz8_0:=blk_frozen BK105.out 0
    have hfz8_1:=blk_frozen BK105.out 1
    have hfz8_2:=blk_frozen BK105.out 2
    go_upto_if 16 with (first|(go_at_call 75;(with_reducible refine (spec_l5Is.calls x5_1 a0_1 t109 _ A6.out).mono ?_);rintro e w' ⟨rfl,⟨nd,rfl⟩⟩;(try first|exact ⟨rfl,_,World.drewN_drewN _ _ _⟩|exact ⟨rfl,_,Eq.trans (World.drewN_drewN _ _ _) (congrArg (World.drewN _) (Nat.add_assoc _ _ _))⟩)))
    repeat (go_quiet (first|(go_at_call 75;(with_reducible refine (spec_l5Is.calls x5_1 a0_1 t109 _ A6.out).mono ?_);rintro e w' ⟨rfl,⟨nd,rfl⟩⟩;(try first|exact ⟨rfl,_,World.drewN_drewN _ _ _⟩|exact ⟨rfl,_,Eq.trans (World.drewN_drewN _ _ _) (congrArg (World.drewN _) (Nat.add_assoc _ _ _))⟩)));go_upto_if 16 with (first|(go_at_call 75;(with_reducible refine (spec_l5Is.calls x5_1 a0_1 t109 _ A6.out).mono ?_);rintro e w' ⟨rfl,⟨nd,rfl⟩⟩;(try first|exact ⟨rfl,_,World.drewN_drewN _ _ _⟩|exact ⟨rfl,_,Eq.trans (World.drewN_drewN _ _ _) (congrArg (World.drewN _) (Nat.add_assoc _ _ _))⟩))))
    (try simp only [Act.put,List.setIfInBounds_toArray,List.set_cons_zero,List.set_cons_succ])
    go_cut [6] (fun v6 wc => ∃ (kq : Nat) (x6_6 : Int),v6 = .int .i64 x6_6 ∧ Aside0 (spec_l6Row.j1 kq x4_1 x5_1 x6_6 0 a0_0 a0_1 a0_2 = some (r1,r2)) ∧ Aside0 (kq ≤ k1) ∧ Aside0 (Kd.R (Kd.int .i64) 3 wc w.heap.size (fun _ => True) u4 x4_1) ∧ Aside0 (wc.heap[gb105]? = some (.cells #[.int .i64 a0_0,.int .i64 a0_1,.int .i64 a0_2] 29 (0,0))) ∧ Aside0 (Below w.heap.size w wc))
    case first =>
     have H:=HC7.out;clear HC7
     by_cases c9 : t109 = true
     ·
      subst c9
      have H1 : (spec_l6Row.j1 k1 x4_1 x5_1 1 0 a0_0 a0_1 a0_2) = some (r1,r2):=by rw [if_pos rfl] at H;exact H
      clear H;have H:=H1;clear H1
      have H':=Aside0.mk H;clear H
      go_wp2
      repeat (go_quiet (fail);try go_wp2)
      go_meet
      case rel => exact ⟨_,(1),(by first|rfl|(simp;done)|(simp [*];done)),H',⟨by have:=HK1.out;first|omega|exact Nat.le_refl _⟩,⟨rU HO_4.out⟩,⟨blkU BK105.out⟩,⟨by repeat (first|(with_reducible first|exact HB.out|apply below_alloc|apply pw_below_drewN|apply below_drew1|refine below_set ?_ GE105.out)|exact HB.out)⟩⟩
     ·
      replace c9:=Bool.eq_false_iff.mpr c9;subst c9
      have H1 : (spec_l6Row.j1 k1 x4_1 x5_1 0 0 a0_0 a0_1 a0_2) = some (r1,r2):=by rw [if_neg (show ¬ (false = true) by decide)] at H;exact H
      clear H;have H:=H1;clear H1
      have H':=Aside0.mk H;clear H
      go_wp2
      repeat (go_quiet (fail);try go_wp2)
      go_meet
      case rel => exact ⟨_,(0),(by first|rfl|(simp;done)|(simp [*];done)),H',⟨by have:=HK1.out;first|omega|exact Nat.le_refl _⟩,⟨rU HO_4.out⟩,⟨blkU BK105.out⟩,⟨by repeat (first|(with_reducible first|exact HB.out|apply below_alloc|apply pw_below_drewN|apply below_drew1|refine below_set ?_ GE105.out)|exact HB.out)⟩⟩
    case rest =>
     clear HC7
     try clear p2
     try clear c5
     try clear c5b0
     try clear c9
     try clear hcz8_0
     try clear hcz8_1
     try clear hcz8_2
     try clear hfz8_0
     try clear hfz8_1
     try clear hfz8_2
     try clear p2
     obtain ⟨kq,x6_6,rfl,HA,HJ6,HO_4,BK105,HB⟩:=hcut
     cases kq with
     | zero => exact absurd HA.out (by simp [spec_l6Row.j1])
     | succ kj6 =>
      have H:=HA.out;clear HA
      simp only [spec_l6Row.j1] at H
      replace H:=Option.bind_eq_some_iff.mp H
      obtain ⟨t110,A100,H⟩:=H
      replace H : (if t110 = true then (spec_l6Row.j2 kj6 x4_1 x5_1 x6_6 1 a0_0 a0_1 a0_2) else (spec_l6Row.j2 kj6 x4_1 x5_1 x6_6 0 a0_0 a0_1 a0_2)) = some (r1,r2):=H
      have A10:=Aside0.mk A100;clear A100
      have HC11:=Aside0.mk H;clear H
      have hcz12_0 : wc.cell? ⟨gb105,0,none⟩ = some (.int .i64 a0_0):=(blk_cell BK105.out 0).trans rfl
      have hcz12_1 : wc.cell? ⟨gb105,1,none⟩ = some (.int .i64 a0_1):=(blk_cell BK105.out 1).trans rfl
      have hcz12_2 : wc.cell? ⟨gb105,2,none⟩ = some (.int .i64 a0_2):=(blk_cell BK105.out 2).trans rfl
      have hfz12_0:=blk_frozen BK105.out 0
      have hfz12_1:=blk_frozen BK105.out 1
      have hfz12_2:=blk_frozen BK105.out 2
      go_upto_if 20 with (first|(go_at_call 75;(with_reducible refine (spec_l5Is.calls x5_1 a0_2 t110 _ A10.out).mono ?_);rintro e w' ⟨rfl,⟨nd,rfl⟩⟩;(try first|exact ⟨rfl,_,World.drewN_drewN _ _ _⟩|exact ⟨rfl,_,Eq.trans (World.drewN_drewN _ _ _) (congrArg (World.drewN _) (Nat.add_assoc _ _ _))⟩)))
      repeat (go_quiet (first|(go_at_call 75;(with_reducible refine (spec_l5Is.calls x5_1 a0_2 t110 _ A10.out).mono ?_);rintro e w' ⟨rfl,⟨nd,rfl⟩⟩;(try first|exact ⟨rfl,_,World.drewN_drewN _ _ _⟩|exact ⟨rfl,_,Eq.trans (World.drewN_drewN _ _ _) (congrArg (World.drewN _) (Nat.add_assoc _ _ _))⟩)));go_upto_if 20 with (first|(go_at_call 75;(with_reducible refine (spec_l5Is.calls x5_1 a0_2 t110 _ A10.out).mono ?_);rintro e w' ⟨rfl,⟨nd,rfl⟩⟩;(try first|exact ⟨rfl,_,World.drewN_drewN _ _ _⟩|exact ⟨rfl,_,Eq.trans (World.drewN_drewN _ _ _) (congrArg (World.drewN _) (Nat.add_assoc _ _ _))⟩))))
      (try simp only [Act.put,List.setIfInBounds_toArray,List.set_cons_zero,List.set_cons_succ])
      go_cut [7] (fun v7 wc => ∃ (kq : Nat) (x7_10 : Int),v7 = .int .i64 x7_10 ∧ Aside0 (spec_l6Row.j2 kq x4_1 x5_1 x6_6 x7_10 a0_0 a0_1 a0_2 = some (r1,r2)) ∧ Aside0 (kq ≤ kj6) ∧ Aside0 (Kd.R (Kd.int .i64) 3 wc w.heap.size (fun _ => True) u4 x4_1) ∧ Aside0 (wc.heap[gb105]? = some (.cells #[.int .i64 a0_0,.int .i64 a0_1,.int .i64 a0_2] 29 (0,0))) ∧ Aside0 (Below w.heap.size w wc))
      case first =>
       have H:=HC11.out;clear HC11
       by_cases c13 : t110 = true
       ·
        subst c13
        have H1 : (spec_l6Row.j2 kj6 x4_1 x5_1 x6_6 1 a0_0 a0_1 a0_2) = some (r1,r2):=by rw [if_pos rfl] at H;exact H
        clear H;have H:=H1;clear H1
        have H':=Aside0.mk H;clear H
        go_wp2
        repeat (go_quiet (fail);try go_wp2)
        go_meet
        case rel => exact ⟨_,(1),(by first|rfl|(simp;done)|(simp [*];done)),H',⟨by have:=HK1.out;have:=HJ6.out;first|omega|exact Nat.le_refl _⟩,⟨rU HO_4.out⟩,⟨blkU BK105.out⟩,⟨by repeat (first|(with_reducible first|exact HB.out|apply below_alloc|apply pw_below_drewN|apply below_drew1|refine below_set ?_ GE105.out)|exact HB.out)⟩⟩
       ·
        replace c13:=Bool.eq_false_iff.mpr c13;subst c13
        have H1 : (spec_l6Row.j2 kj6 x4_1 x5_1 x6_6 0 a0_0 a0_1 a0_2) = some (r1,r2):=by rw [if_neg (show ¬ (false = true) by decide)] at H;exact H
        clear H;have H:=H1;clear H1
        have H':=Aside0.mk H;clear H
        go_wp2
        repeat (go_quiet (fail);try go_wp2)
        go_meet
        case rel => exact ⟨_,(0),(by first|rfl|(simp;done)|(simp [*];done)),H',⟨by have:=HK1.out;have:=HJ6.out;first|omega|exact Nat.le_refl _⟩,⟨rU HO_4.out⟩,⟨blkU BK105.out⟩,⟨by repeat (first|(with_reducible first|exact HB.out|apply below_alloc|apply pw_below_drewN|apply below_drew1|refine below_set ?_ GE105.out)|exact HB.out)⟩⟩
      case rest =>
       clear HC11
       try clear c1
       try clear p2
       try clear c5
       try clear c5b0
       try clear c9
       try clear c13
       try clear hcz12_0
       try clear hcz12_1
       try clear hcz12_2
       try clear hcz8_0
       try clear hcz8_1
       try clear hcz8_2
       try clear hfz12_0
       try clear hfz12_1
       try clear hfz12_2
       try clear hfz8_0
       try clear hfz8_1
       try clear hfz8_2
       try clear p2
       obtain ⟨kq,x7_10,rfl,HA,HJ10,HO_4,BK105,HB⟩:=hcut
       cases kq with
       | zero => exact absurd HA.out (by simp [spec_l6Row.j2])
       | succ kj10 =>
        have H:=HA.out;clear HA
        simp only [spec_l6Row.j2] at H
        by_cases c14 : a0_0 = 0
        ·
         rw [if_pos c14] at H
         have c14b0 : (a0_0 == 0) = true:=beq_iff_eq.mpr c14
         have c14b1 : (a0_0 != 0) = false:=bne_eq_false_iff_eq.mpr c14;clear c14
         by_cases c15 : x4_1.length < 17592186044416
         ·
          rw [if_pos c15] at H
          have LMc15:=Aside0.mk c15;clear c15
          obtain ⟨y111,hy111⟩ : ∃ y_ : List Int,y_ = (x4_1 ++ [wrap64 ((wrap64 (-x6_6)) * (wrap64 (1 - x7_10)))]):=⟨_,rfl⟩
          replace H : (spec_l6Row.l0 kj10 y111 (wrap64 (x5_1 + 1)) a0_0 a0_1 a0_2) = some (r1,r2):=by first|(rw [hy111];with_reducible exact H)|(have H2_:=(Option.bind_some _ _).symm.trans H;rw [hy111];with_reducible exact H2_)|(have H2_:=(Option.bind_some _ _).symm.trans H;with_reducible exact H2_)|with_reducible exact H|(rw [hy111];exact H)|exact H
          have Ny111:=Aside0.mk hy111;clear hy111
          have H':=Aside0.mk H;clear H
          have hcz16_0 : wc.cell? ⟨gb105,0,none⟩ = some (.int .i64 a0_0):=(blk_cell BK105.out 0).trans rfl
          have hcz16_1 : wc.cell? ⟨gb105,1,none⟩ = some (.int .i64 a0_1):=(blk_cell BK105.out 1).trans rfl
          have hcz16_2 : wc.cell? ⟨gb105,2,none⟩ = some (.int .i64 a0_2):=(blk_cell BK105.out 2).trans rfl
          have hfz16_0:=blk_frozen BK105.out 0
          have hfz16_1:=blk_frozen BK105.out 1
          have hfz16_2:=blk_frozen BK105.out 2
          go_wp2_with (first|((with_reducible refine gate_builtin (b:=.append) (xs:=#[.tmp 33,.tmp 39]) rfl ?_);at_builtin;refine Kd.R_append (Kd.int .i64) (w0:=w) w.heap.size rfl (.tmp 33) (.tmp 39) 35 3 (.int .i64 0) 8 rfl Try.underlying35 info3 rfl (by decide) (by omega) u4 x4_1 (wrap64 ((wrap64 (-x6_6)) * (wrap64 (1 - x7_10)))) [.int .i64 (wrap64 ((wrap64 (-x6_6)) * (wrap64 (1 - x7_10))))] (fun _ => True) (fun _ => False) rfl rfl ?aP (fun _ hk => hk.elim) ?aF ?aO ?aB ?aS ?aL ?_;(case aP => exact rfl);(case aB => exact (by repeat (first|(with_reducible first|exact HB.out|apply below_alloc|apply pw_below_drewN|apply below_drew1|refine below_set ?_ GE105.out)|exact HB.out)));(case aF => exact (fun _ _ => trivial));(case aO => exact (rU HO_4.out));(case aS => exact (below_size (by repeat (first|(with_reducible first|exact HB.out|apply below_alloc|apply pw_below_drewN|apply below_drew1|refine below_set ?_ GE105.out)|exact HB.out))));(case aL => have:=LMc15.out;omega);intro v112 w17 ho hb hg hat;rw [← Ny111.out] at ho;have n0_:=Aside0.mk (blk_grown (g:=gb105) (o:=.cells #[.int .i64 a0_0,.int .i64 a0_1,.int .i64 a0_2] 29 (0,0)) (blkU BK105.out) hg (Kd.R_ne HO_4.out BK105.out (by decide)));have n1_:=Aside0.mk (hb);have n2_:=Aside0.mk (ho);clear BK105 HB HO_4;have BK105:=n0_;have HB:=n1_;have HO113:=n2_;clear n0_ n1_ n2_ ho hb hg hat))
          repeat (go_quiet (first|((with_reducible refine gate_builtin (b:=.append) (xs:=#[.tmp 33,.tmp 39]) rfl ?_);at_builtin;refine Kd.R_append (Kd.int .i64) (w0:=w) w.heap.size rfl (.tmp 33) (.tmp 39) 35 3 (.int .i64 0) 8 rfl Try.underlying35 info3 rfl (by decide) (by omega) u4 x4_1 (wrap64 ((wrap64 (-x6_6)) * (wrap64 (1 - x7_10)))) [.int .i64 (wrap64 ((wrap64 (-x6_6)) * (wrap64 (1 - x7_10))))] (fun _ => True) (fun _ => False) rfl rfl ?aP (fun _ hk => hk.elim) ?aF ?aO ?aB ?aS ?aL ?_;(case aP => exact rfl);(case aB => exact (by repeat (first|(with_reducible first|exact HB.out|apply below_alloc|apply pw_below_drewN|apply below_drew1|refine below_set ?_ GE105.out)|exact HB.out)));(case aF => exact (fun _ _ => trivial));(case aO => exact (rU HO_4.out));(case aS => exact (below_size (by repeat (first|(with_reducible first|exact HB.out|apply below_alloc|apply pw_below_drewN|apply below_drew1|refine below_set ?_ GE105.out)|exact HB.out))));(case aL => have:=LMc15.out;omega);intro v112 w17 ho hb hg hat;rw [← Ny111.out] at ho;have n0_:=Aside0.mk (blk_grown (g:=gb105) (o:=.cells #[.int .i64 a0_0,.int .i64 a0_1,.int .i64 a0_2] 29 (0,0)) (blkU BK105.out) hg (Kd.R_ne HO_4.out BK105.out (by decide)));have n1_:=Aside0.mk (hb);have n2_:=Aside0.mk (ho);clear BK105 HB HO_4;have BK105:=n0_;have HB:=n1_;have HO113:=n2_;clear n0_ n1_ n2_ ho hb hg hat));try go_wp2_with (first|((with_reducible refine gate_builtin (b:=.append) (xs:=#[.tmp 33,.tmp 39]) rfl ?_);at_builtin;refine Kd.R_append (Kd.int .i64) (w0:=w) w.heap.size rfl (.tmp 33) (.tmp 39) 35 3 (.int .i64 0) 8 rfl Try.underlying35 info3 rfl (by decide) (by omega) u4 x4_1 (wrap64 ((wrap64 (-x6_6)) * (wrap64 (1 - x7_10)))) [.int .i64 (wrap64 ((wrap64 (-x6_6)) * (wrap64 (1 - x7_10))))] (fun _ => True) (fun _ => False) rfl rfl ?aP (fun _ hk => hk.elim) ?aF ?aO ?aB ?aS ?aL ?_;(case aP => exact rfl);(case aB => exact (by repeat (first|(with_reducible first|exact HB.out|apply below_alloc|apply pw_below_drewN|apply below_drew1|refine below_set ?_ GE105.out)|exact HB.out)));(case aF => exact (fun _ _ => trivial));(case aO => exact (rU HO_4.out));(case aS => exact (below_size (by repeat (first|(with_reducible first|exact HB.out|apply below_alloc|apply pw_below_drewN|apply below_drew1|refine below_set ?_ GE105.out)|exact HB.out))));(case aL => have:=LMc15.out;omega);intro v112 w17 ho hb hg hat;rw [← Ny111.out] at ho;have n0_:=Aside0.mk (blk_grown (g:=gb105) (o:=.cells #[.int .i64 a0_0,.int .i64 a0_1,.int .i64 a0_2] 29 (0,0)) (blkU BK105.out) hg (Kd.R_ne HO_4.out BK105.out (by decide)));have n1_:=Aside0.mk (hb);have n2_:=Aside0.mk (ho);clear BK105 HB HO_4;have BK105:=n0_;have HB:=n1_;have HO113:=n2_;clear n0_ n1_ n2_ ho hb hg hat)))
          go_roundg kj10
          case measure => have:=HK1.out;have:=HJ6.out;have:=HJ10.out;omega
          case rel => exact ⟨(y111),(wrap64 (x5_1 + 1)),(by first|rfl|(simp;done)|(simp [*];done)),H',⟨by have:=HK1.out;have:=HJ6.out;have:=HJ10.out;omega⟩,⟨rU HO113.out⟩,⟨blkU BK105.out⟩,⟨by repeat (first|(with_reducible first|exact HB.out|apply below_alloc|apply pw_below_drewN|apply below_drew1|refine below_set ?_ GE105.out)|exact HB.out)⟩⟩
         ·
          rw [if_neg c15] at H
          exact absurd H (by simp)
        ·
         rw [if_neg c14] at H
         have c14b0 : (a0_0 == 0) = false:=beq_eq_false_iff_ne.mpr c14
         have c14b1 : (a0_0 != 0) = true:=bne_iff_ne.mpr c14
         by_cases c18 : a0_0 = 1
         ·
          rw [if_pos c18] at H
          have c18b0 : (a0_0 == 1) = true:=beq_iff_eq.mpr c18
          have c18b1 : (a0_0 != 1) = false:=bne_eq_false_iff_eq.mpr c18;clear c18
          by_cases c19 : x4_1.length < 17592186044416
          ·
           rw [if_pos c19] at H
           have LMc19:=Aside0.mk c19;clear c19
           obtain ⟨y114,hy114⟩ : ∃ y_ : List Int,y_ = (x4_1 ++ [wrap64 (x6_6 * x7_10)]):=⟨_,rfl⟩
           replace H : (spec_l6Row.l0 kj10 y114 (wrap64 (x5_1 + 1)) a0_0 a0_1 a0_2) = some (r1,r2):=by first|(rw [hy114];with_reducible exact H)|(have H2_:=(Option.bind_some _ _).symm.trans H;rw [hy114];with_reducible exact H2_)|(have H2_:=(Option.bind_some _ _).symm.trans H;with_reducible exact H2_)|with_reducible exact H|(rw [hy114];exact H)|exact H
           have Ny114:=Aside0.mk hy114;clear hy114
           have H':=Aside0.mk H;clear H
           have hcz20_0 : wc.cell? ⟨gb105,0,none⟩ = some (.int .i64 a0_0):=(blk_cell BK105.out 0).trans rfl
           have hcz20_1 : wc.cell? ⟨gb105,1,none⟩ = some (.int .i64 a0_1):=(blk_cell BK105.out 1).trans rfl
           have hcz20_2 : wc.cell? ⟨gb105,2,none⟩ = some (.int .i64 a0_2):=(blk_cell BK105.out 2).trans rfl
           have hfz20_0:=blk_frozen BK105.out 0
           have hfz20_1:=blk_frozen BK105.out 1
           have hfz20_2:=blk_frozen BK105.out 2
           go_wp2_with (first|((with_reducible refine gate_builtin (b:=.append) (xs:=#[.tmp 43,.tmp 47]) rfl ?_);at_builtin;refine Kd.R_append (Kd.int .i64) (w0:=w) w.heap.size rfl (.tmp 43) (.tmp 47) 35 3 (.int .i64 0) 8 rfl Try.underlying35 info3 rfl (by decide) (by omega) u4 x4_1 (wrap64 (x6_6 * x7_10)) [.int .i64 (wrap64 (x6_6 * x7_10))] (fun _ => True) (fun _ => False) rfl rfl ?aP (fun _ hk => hk.elim) ?aF ?aO ?aB ?aS ?aL ?_;(case aP => exact rfl);(case aB => exact (by repeat (first|(with_reducible first|exact HB.out|apply below_alloc|apply pw_below_drewN|apply below_drew1|refine below_set ?_ GE105.out)|exact HB.out)));(case aF => exact (fun _ _ => trivial));(case aO => exact (rU HO_4.out));(case aS => exact (below_size (by repeat (first|(with_reducible first|exact HB.out|apply below_alloc|apply pw_below_drewN|apply below_drew1|refine below_set ?_ GE105.out)|exact HB.out))));(case aL => have:=LMc19.out;omega);intro v115 w21 ho hb hg hat;rw [← Ny114.out] at ho;have n0_:=Aside0.mk (blk_grown (g:=gb105) (o:=.cells #[.int .i64 a0_0,.int .i64 a0_1,.int .i64 a0_2] 29 (0,0)) (blkU BK105.out) hg (Kd.R_ne HO_4.out BK105.out (by decide)));have n1_:=Aside0.mk (hb);have n2_:=Aside0.mk (ho);clear BK105 HB HO_4;have BK105:=n0_;have HB:=n1_;have HO116:=n2_;clear n0_ n1_ n2_ ho hb hg hat))
           repeat (go_quiet (first|((with_reducible refine gate_builtin (b:=.append) (xs:=#[.tmp 43,.tmp 47]) rfl ?_);at_builtin;refine Kd.R_append (Kd.int .i64) (w0:=w) w.heap.size rfl (.tmp 43) (.tmp 47) 35 3 (.int .i64 0) 8 rfl Try.underlying35 info3 rfl (by decide) (by omega) u4 x4_1 (wrap64 (x6_6 * x7_10)) [.int .i64 (wrap64 (x6_6 * x7_10))] (fun _ => True) (fun _ => False) rfl rfl ?aP (fun _ hk => hk.elim) ?aF ?aO ?aB ?aS ?aL ?_;(case aP => exact rfl);(case aB => exact (by repeat (first|(with_reducible first|exact HB.out|apply below_alloc|apply pw_below_drewN|apply below_drew1|refine below_set ?_ GE105.out)|exact HB.out)));(case aF => exact (fun _ _ => trivial));(case aO => exact (rU HO_4.out));(case aS => exact (below_size (by repeat (first|(with_reducible first|exact HB.out|apply below_alloc|apply pw_below_drewN|apply below_drew1|refine below_set ?_ GE105.out)|exact HB.out))));(case aL => have:=LMc19.out;omega);intro v115 w21 ho hb hg hat;rw [← Ny114.out] at ho;have n0_:=Aside0.mk (blk_grown (g:=gb105) (o:=.cells #[.int .i64 a0_0,.int .i64 a0_1,.int .i64 a0_2] 29 (0,0)) (blkU BK105.out) hg (Kd.R_ne HO_4.out BK105.out (by decide)));have n1_:=Aside0.mk (hb);have n2_:=Aside0.mk (ho);clear BK105 HB HO_4;have BK105:=n0_;have HB:=n1_;have HO116:=n2_;clear n0_ n1_ n2_ ho hb hg hat));try go_wp2_with (first|((with_reducible refine gate_builtin (b:=.append) (xs:=#[.tmp 43,.tmp 47]) rfl ?_);at_builtin;refine Kd.R_append (Kd.int .i64) (w0:=w) w.heap.size rfl (.tmp 43) (.tmp 47) 35 3 (.int .i64 0) 8 rfl Try.underlying35 info3 rfl (by decide) (by omega) u4 x4_1 (wrap64 (x6_6 * x7_10)) [.int .i64 (wrap64 (x6_6 * x7_10))] (fun _ => True) (fun _ => False) rfl rfl ?aP (fun _ hk => hk.elim) ?aF ?aO ?aB ?aS ?aL ?_;(case aP => exact rfl);(case aB => exact (by repeat (first|(with_reducible first|exact HB.out|apply below_alloc|apply pw_below_drewN|apply below_drew1|refine below_set ?_ GE105.out)|exact HB.out)));(case aF => exact (fun _ _ => trivial));(case aO => exact (rU HO_4.out));(case aS => exact (below_size (by repeat (first|(with_reducible first|exact HB.out|apply below_alloc|apply pw_below_drewN|apply below_drew1|refine below_set ?_ GE105.out)|exact HB.out))));(case aL => have:=LMc19.out;omega);intro v115 w21 ho hb hg hat;rw [← Ny114.out] at ho;have n0_:=Aside0.mk (blk_grown (g:=gb105) (o:=.cells #[.int .i64 a0_0,.int .i64 a0_1,.int .i64 a0_2] 29 (0,0)) (blkU BK105.out) hg (Kd.R_ne HO_4.out BK105.out (by decide)));have n1_:=Aside0.mk (hb);have n2_:=Aside0.mk (ho);clear BK105 HB HO_4;have BK105:=n0_;have HB:=n1_;have HO116:=n2_;clear n0_ n1_ n2_ ho hb hg hat)))
           go_roundg kj10
           case measure => have:=HK1.out;have:=HJ6.out;have:=HJ10.out;omega
           case rel => exact ⟨(y114),(wrap64 (x5_1 + 1)),(by first|rfl|(simp;done)|(simp [*];done)),H',⟨by have:=HK1.out;have:=HJ6.out;have:=HJ10.out;omega⟩,⟨rU HO116.out⟩,⟨blkU BK105.out⟩,⟨by repeat (first|(with_reducible first|exact HB.out|apply below_alloc|apply pw_below_drewN|apply below_drew1|refine below_set ?_ GE105.out)|exact HB.out)⟩⟩
          ·
           rw [if_neg c19] at H
           exact absurd H (by simp)
         ·
          rw [if_neg c18] at H
          have c18b0 : (a0_0 == 1) = false:=beq_eq_false_iff_ne.mpr c18
          have c18b1 : (a0_0 != 1) = true:=bne_iff_ne.mpr c18
          have HC22:=Aside0.mk H;clear H
          have hcz23_0 : wc.cell? ⟨gb105,0,none⟩ = some (.int .i64 a0_0):=(blk_cell BK105.out 0).trans rfl
          have hcz23_1 : wc.cell? ⟨gb105,1,none⟩ = some (.int .i64 a0_1):=(blk_cell BK105.out 1).trans rfl
          have hcz23_2 : wc.cell? ⟨gb105,2,none⟩ = some (.int .i64 a0_2):=(blk_cell BK105.out 2).trans rfl
          have hfz23_0:=blk_frozen BK105.out 0
          have hfz23_1:=blk_frozen BK105.out 1
          have hfz23_2:=blk_frozen BK105.out 2
          go_upto_if 49 with (fail)
          repeat (go_quiet (fail);go_upto_if 49 with (fail))
          go_cut [49] (fun v49 wc => ∃ (kq : Nat) (x49_21 : Bool),v49 = .bool x49_21 ∧ Aside0 (spec_l6Row.j3 kq x4_1 x5_1 x6_6 x7_10 a0_0 x49_21 a0_0 a0_1 a0_2 = some (r1,r2)) ∧ Aside0 (kq ≤ kj10) ∧ Aside0 (Kd.R (Kd.int .i64) 3 wc w.heap.size (fun _ => True) u4 x4_1) ∧ Aside0 (wc.heap[gb105]? = some (.cells #[.int .i64 a0_0,.int .i64 a0_1,.int .i64 a0_2] 29 (0,0))) ∧ Aside0 (Below w.heap.size w wc))
          case first =>
           have H:=HC22.out;clear HC22
           by_cases c24 : a0_0 = 2
           ·
            rw [if_pos c24] at H
            have c24b0 : (a0_0 == 2) = true:=beq_iff_eq.mpr c24
            have c24b1 : (a0_0 != 2) = false:=bne_eq_false_iff_eq.mpr c24;clear c24
            (first|rw [c24b0]|(simp only [i64_w,i32_w];rw [c24b0])|skip)
            have H':=Aside0.mk H;clear H
            go_wp2
            repeat (go_quiet (fail);try go_wp2)
            go_meet
            case rel => exact ⟨_,((a0_0 == 2)),(by first|rfl|(simp;done)|(simp [*];done)),H',⟨by have:=HK1.out;have:=HJ6.out;have:=HJ10.out;first|omega|exact Nat.le_refl _⟩,⟨rU HO_4.out⟩,⟨blkU BK105.out⟩,⟨by repeat (first|(with_reducible first|exact HB.out|apply below_alloc|apply pw_below_drewN|apply below_drew1|refine below_set ?_ GE105.out)|exact HB.out)⟩⟩
           ·
            rw [if_neg c24] at H
            have c24b0 : (a0_0 == 2) = false:=beq_eq_false_iff_ne.mpr c24
            have c24b1 : (a0_0 != 2) = true:=bne_iff_ne.mpr c24
            (first|rw [c24b0]|(simp only [i64_w,i32_w];rw [c24b0])|skip)
            have H':=Aside0.mk H;clear H
            go_wp2
            repeat (go_quiet (fail);try go_wp2)
            go_meet
            case rel => exact ⟨_,((a0_0 == 3)),(by first|rfl|(simp;done)|(simp [*];done)),H',⟨by have:=HK1.out;have:=HJ6.out;have:=HJ10.out;first|omega|exact Nat.le_refl _⟩,⟨rU HO_4.out⟩,⟨blkU BK105.out⟩,⟨by repeat (first|(with_reducible first|exact HB.out|apply below_alloc|apply pw_below_drewN|apply below_drew1|refine below_set ?_ GE105.out)|exact HB.out)⟩⟩
          case rest =>
           clear HC22
           try clear c1
           try clear c2
           try clear p2
           try clear c5
           try clear c5b0
           try clear p6
           try clear c9
           try clear c13
           try clear c14
           try clear c14b0
           try clear c14b1
           try clear c15
           try clear c18
           try clear c18b0
           try clear c18b1
           try clear c19
           try clear c24
           try clear c24b0
           try clear c24b1
           try clear hcz12_0
           try clear hcz12_1
           try clear hcz12_2
           try clear hcz16_0
           try clear hcz16_1
           try clear hcz16_2
           try clear hcz20_0
           try clear hcz20_1
           try clear hcz20_2
           try clear hcz23_0
           try clear hcz23_1
           try clear hcz23_2
           try clear hcz8_0
           try clear hcz8_1
           try clear hcz8_2
           try clear hfz12_0
           try clear hfz12_1
           try clear hfz12_2
           try clear hfz16_0
           try clear hfz16_1
           try clear hfz16_2
           try clear hfz20_0
           try clear hfz20_1
           try clear hfz20_2
           try clear hfz23_0
           try clear hfz23_1
           try clear hfz23_2
           try clear hfz8_0
           try clear hfz8_1
           try clear hfz8_2
           try clear p2
           obtain ⟨kq,x49_21,rfl,HA,HJ21,HO_4,BK105,HB⟩:=hcut
           cases kq with
           | zero => exact absurd HA.out (by simp [spec_l6Row.j3])
           | succ kj21 =>
            have H:=HA.out;clear HA
            simp only [spec_l6Row.j3] at H
            by_cases c25 : x49_21 = true
            ·
             subst c25
             have H1 : (if x4_1.length < 17592186044416 then (spec_l6Row.l0 kj21 (x4_1 ++ [wrap64 (x6_6 - x7_10)]) (wrap64 (x5_1 + 1)) a0_0 a0_1 a0_2) else (none)) = some (r1,r2):=by rw [if_pos rfl] at H;exact H
             clear H;have H:=H1;clear H1
             by_cases c26 : x4_1.length < 17592186044416
             ·
              rw [if_pos c26] at H
              have LMc26:=Aside0.mk c26;clear c26
              obtain ⟨y117,hy117⟩ : ∃ y_ : List Int,y_ = (x4_1 ++ [wrap64 (x6_6 - x7_10)]):=⟨_,rfl⟩
              replace H : (spec_l6Row.l0 kj21 y117 (wrap64 (x5_1 + 1)) a0_0 a0_1 a0_2) = some (r1,r2):=by first|(rw [hy117];with_reducible exact H)|(have H2_:=(Option.bind_some _ _).symm.trans H;rw [hy117];with_reducible exact H2_)|(have H2_:=(Option.bind_some _ _).symm.trans H;with_reducible exact H2_)|with_reducible exact H|(rw [hy117];exact H)|exact H
              have Ny117:=Aside0.mk hy117;clear hy117
              have H':=Aside0.mk H;clear H
              go_wp2_with (first|((with_reducible refine gate_builtin (b:=.append) (xs:=#[.tmp 52,.tmp 56]) rfl ?_);at_builtin;refine Kd.R_append (Kd.int .i64) (w0:=w) w.heap.size rfl (.tmp 52) (.tmp 56) 35 3 (.int .i64 0) 8 rfl Try.underlying35 info3 rfl (by decide) (by omega) u4 x4_1 (wrap64 (x6_6 - x7_10)) [.int .i64 (wrap64 (x6_6 - x7_10))] (fun _ => True) (fun _ => False) rfl rfl ?aP (fun _ hk => hk.elim) ?aF ?aO ?aB ?aS ?aL ?_;(case aP => exact rfl);(case aB => exact (by repeat (first|(with_reducible first|exact HB.out|apply below_alloc|apply pw_below_drewN|apply below_drew1|refine below_set ?_ GE105.out)|exact HB.out)));(case aF => exact (fun _ _ => trivial));(case aO => exact (rU HO_4.out));(case aS => exact (below_size (by repeat (first|(with_reducible first|exact HB.out|apply below_alloc|apply pw_below_drewN|apply below_drew1|refine below_set ?_ GE105.out)|exact HB.out))));(case aL => have:=LMc26.out;omega);intro v118 w27 ho hb hg hat;rw [← Ny117.out] at ho;have n0_:=Aside0.mk (blk_grown (g:=gb105) (o:=.cells #[.int .i64 a0_0,.int .i64 a0_1,.int .i64 a0_2] 29 (0,0)) (blkU BK105.out) hg (Kd.R_ne HO_4.out BK105.out (by decide)));have n1_:=Aside0.mk (hb);have n2_:=Aside0.mk (ho);clear BK105 HB HO_4;have BK105:=n0_;have HB:=n1_;have HO119:=n2_;clear n0_ n1_ n2_ ho hb hg hat))
              repeat (go_quiet (first|((with_reducible refine gate_builtin (b:=.append) (xs:=#[.tmp 52,.tmp 56]) rfl ?_);at_builtin;refine Kd.R_append (Kd.int .i64) (w0:=w) w.heap.size rfl (.tmp 52) (.tmp 56) 35 3 (.int .i64 0) 8 rfl Try.underlying35 info3 rfl (by decide) (by omega) u4 x4_1 (wrap64 (x6_6 - x7_10)) [.int .i64 (wrap64 (x6_6 - x7_10))] (fun _ => True) (fun _ => False) rfl rfl ?aP (fun _ hk => hk.elim) ?aF ?aO ?aB ?aS ?aL ?_;(case aP => exact rfl);(case aB => exact (by repeat (first|(with_reducible first|exact HB.out|apply below_alloc|apply pw_below_drewN|apply below_drew1|refine below_set ?_ GE105.out)|exact HB.out)));(case aF => exact (fun _ _ => trivial));(case aO => exact (rU HO_4.out));(case aS => exact (below_size (by repeat (first|(with_reducible first|exact HB.out|apply below_alloc|apply pw_below_drewN|apply below_drew1|refine below_set ?_ GE105.out)|exact HB.out))));(case aL => have:=LMc26.out;omega);intro v118 w27 ho hb hg hat;rw [← Ny117.out] at ho;have n0_:=Aside0.mk (blk_grown (g:=gb105) (o:=.cells #[.int .i64 a0_0,.int .i64 a0_1,.int .i64 a0_2] 29 (0,0)) (blkU BK105.out) hg (Kd.R_ne HO_4.out BK105.out (by decide)));have n1_:=Aside0.mk (hb);have n2_:=Aside0.mk (ho);clear BK105 HB HO_4;have BK105:=n0_;have HB:=n1_;have HO119:=n2_;clear n0_ n1_ n2_ ho hb hg hat));try go_wp2_with (first|((with_reducible refine gate_builtin (b:=.append) (xs:=#[.tmp 52,.tmp 56]) rfl ?_);at_builtin;refine Kd.R_append (Kd.int .i64) (w0:=w) w.heap.size rfl (.tmp 52) (.tmp 56) 35 3 (.int .i64 0) 8 rfl Try.underlying35 info3 rfl (by decide) (by omega) u4 x4_1 (wrap64 (x6_6 - x7_10)) [.int .i64 (wrap64 (x6_6 - x7_10))] (fun _ => True) (fun _ => False) rfl rfl ?aP (fun _ hk => hk.elim) ?aF ?aO ?aB ?aS ?aL ?_;(case aP => exact rfl);(case aB => exact (by repeat (first|(with_reducible first|exact HB.out|apply below_alloc|apply pw_below_drewN|apply below_drew1|refine below_set ?_ GE105.out)|exact HB.out)));(case aF => exact (fun _ _ => trivial));(case aO => exact (rU HO_4.out));(case aS => exact (below_size (by repeat (first|(with_reducible first|exact HB.out|apply below_alloc|apply pw_below_drewN|apply below_drew1|refine below_set ?_ GE105.out)|exact HB.out))));(case aL => have:=LMc26.out;omega);intro v118 w27 ho hb hg hat;rw [← Ny117.out] at ho;have n0_:=Aside0.mk (blk_grown (g:=gb105) (o:=.cells #[.int .i64 a0_0,.int .i64 a0_1,.int .i64 a0_2] 29 (0,0)) (blkU BK105.out) hg (Kd.R_ne HO_4.out BK105.out (by decide)));have n1_:=Aside0.mk (hb);have n2_:=Aside0.mk (ho);clear BK105 HB HO_4;have BK105:=n0_;have HB:=n1_;have HO119:=n2_;clear n0_ n1_ n2_ ho hb hg hat)))
              go_roundg kj21
              case measure => have:=HK1.out;have:=HJ6.out;have:=HJ10.out;have:=HJ21.out;omega
              case rel => exact ⟨(y117),(wrap64 (x5_1 + 1)),(by first|rfl|(simp;done)|(simp [*];done)),H',⟨by have:=HK1.out;have:=HJ6.out;have:=HJ10.out;have:=HJ21.out;omega⟩,⟨rU HO119.out⟩,⟨blkU BK105.out⟩,⟨by repeat (first|(with_reducible first|exact HB.out|apply below_alloc|apply pw_below_drewN|apply below_drew1|refine below_set ?_ GE105.out)|exact HB.out)⟩⟩
             ·
              rw [if_neg c26] at H
              exact absurd H (by simp)
            ·
             replace c25:=Bool.eq_false_iff.mpr c25;subst c25
             have H1 : (if a0_0 = 4 then (if x4_1.length < 17592186044416 then (spec_l6Row.l0 kj21 (x4_1 ++ [wrap64 (x6_6 * (wrap64 ((wrap64 (2 * x7_10)) - 1)))]) (wrap64 (x5_1 + 1)) a0_0 a0_1 a0_2) else (none)) else (if x4_1.length < 17592186044416 then (spec_l6Row.l0 kj21 (x4_1 ++ [wrap64 (x6_6 * (wrap64 (1 - (wrap64 (2 * x7_10)))))]) (wrap64 (x5_1 + 1)) a0_0 a0_1 a0_2) else (none))) = some (r1,r2):=by rw [if_neg (show ¬ (false = true) by decide)] at H;exact H
             clear H;have H:=H1;clear H1
             by_cases c28 : a0_0 = 4
             ·
              rw [if_pos c28] at H
              have c28b0 : (a0_0 == 4) = true:=beq_iff_eq.mpr c28
              have c28b1 : (a0_0 != 4) = false:=bne_eq_false_iff_eq.mpr c28;clear c28
              by_cases c29 : x4_1.length < 17592186044416
              ·
               rw [if_pos c29] at H
               have LMc29:=Aside0.mk c29;clear c29
               obtain ⟨y120,hy120⟩ : ∃ y_ : List Int,y_ = (x4_1 ++ [wrap64 (x6_6 * (wrap64 ((wrap64 (2 * x7_10)) - 1)))]):=⟨_,rfl⟩
               replace H : (spec_l6Row.l0 kj21 y120 (wrap64 (x5_1 + 1)) a0_0 a0_1 a0_2) = some (r1,r2):=by first|(rw [hy120];with_reducible exact H)|(have H2_:=(Option.bind_some _ _).symm.trans H;rw [hy120];with_reducible exact H2_)|(have H2_:=(Option.bind_some _ _).symm.trans H;with_reducible exact H2_)|with_reducible exact H|(rw [hy120];exact H)|exact H
               have Ny120:=Aside0.mk hy120;clear hy120
               have H':=Aside0.mk H;clear H
               go_wp2_with (first|((with_reducible refine gate_builtin (b:=.append) (xs:=#[.tmp 60,.tmp 66]) rfl ?_);at_builtin;refine Kd.R_append (Kd.int .i64) (w0:=w) w.heap.size rfl (.tmp 60) (.tmp 66) 35 3 (.int .i64 0) 8 rfl Try.underlying35 info3 rfl (by decide) (by omega) u4 x4_1 (wrap64 (x6_6 * (wrap64 ((wrap64 (2 * x7_10)) - 1)))) [.int .i64 (wrap64 (x6_6 * (wrap64 ((wrap64 (2 * x7_10)) - 1))))] (fun _ => True) (fun _ => False) rfl rfl ?aP (fun _ hk => hk.elim) ?aF ?aO ?aB ?aS ?aL ?_;(case aP => exact rfl);(case aB => exact (by repeat (first|(with_reducible first|exact HB.out|apply below_alloc|apply pw_below_drewN|apply below_drew1|refine below_set ?_ GE105.out)|exact HB.out)));(case aF => exact (fun _ _ => trivial));(case aO => exact (rU HO_4.out));(case aS => exact (below_size (by repeat (first|(with_reducible first|exact HB.out|apply below_alloc|apply pw_below_drewN|apply below_drew1|refine below_set ?_ GE105.out)|exact HB.out))));(case aL => have:=LMc29.out;omega);intro v121 w30 ho hb hg hat;rw [← Ny120.out] at ho;have n0_:=Aside0.mk (blk_grown (g:=gb105) (o:=.cells #[.int .i64 a0_0,.int .i64 a0_1,.int .i64 a0_2] 29 (0,0)) (blkU BK105.out) hg (Kd.R_ne HO_4.out BK105.out (by decide)));have n1_:=Aside0.mk (hb);have n2_:=Aside0.mk (ho);clear BK105 HB HO_4;have BK105:=n0_;have HB:=n1_;have HO122:=n2_;clear n0_ n1_ n2_ ho hb hg hat))
               repeat (go_quiet (first|((with_reducible refine gate_builtin (b:=.append) (xs:=#[.tmp 60,.tmp 66]) rfl ?_);at_builtin;refine Kd.R_append (Kd.int .i64) (w0:=w) w.heap.size rfl (.tmp 60) (.tmp 66) 35 3 (.int .i64 0) 8 rfl Try.underlying35 info3 rfl (by decide) (by omega) u4 x4_1 (wrap64 (x6_6 * (wrap64 ((wrap64 (2 * x7_10)) - 1)))) [.int .i64 (wrap64 (x6_6 * (wrap64 ((wrap64 (2 * x7_10)) - 1))))] (fun _ => True) (fun _ => False) rfl rfl ?aP (fun _ hk => hk.elim) ?aF ?aO ?aB ?aS ?aL ?_;(case aP => exact rfl);(case aB => exact (by repeat (first|(with_reducible first|exact HB.out|apply below_alloc|apply pw_below_drewN|apply below_drew1|refine below_set ?_ GE105.out)|exact HB.out)));(case aF => exact (fun _ _ => trivial));(case aO => exact (rU HO_4.out));(case aS => exact (below_size (by repeat (first|(with_reducible first|exact HB.out|apply below_alloc|apply pw_below_drewN|apply below_drew1|refine below_set ?_ GE105.out)|exact HB.out))));(case aL => have:=LMc29.out;omega);intro v121 w30 ho hb hg hat;rw [← Ny120.out] at ho;have n0_:=Aside0.mk (blk_grown (g:=gb105) (o:=.cells #[.int .i64 a0_0,.int .i64 a0_1,.int .i64 a0_2] 29 (0,0)) (blkU BK105.out) hg (Kd.R_ne HO_4.out BK105.out (by decide)));have n1_:=Aside0.mk (hb);have n2_:=Aside0.mk (ho);clear BK105 HB HO_4;have BK105:=n0_;have HB:=n1_;have HO122:=n2_;clear n0_ n1_ n2_ ho hb hg hat));try go_wp2_with (first|((with_reducible refine gate_builtin (b:=.append) (xs:=#[.tmp 60,.tmp 66]) rfl ?_);at_builtin;refine Kd.R_append (Kd.int .i64) (w0:=w) w.heap.size rfl (.tmp 60) (.tmp 66) 35 3 (.int .i64 0) 8 rfl Try.underlying35 info3 rfl (by decide) (by omega) u4 x4_1 (wrap64 (x6_6 * (wrap64 ((wrap64 (2 * x7_10)) - 1)))) [.int .i64 (wrap64 (x6_6 * (wrap64 ((wrap64 (2 * x7_10)) - 1))))] (fun _ => True) (fun _ => False) rfl rfl ?aP (fun _ hk => hk.elim) ?aF ?aO ?aB ?aS ?aL ?_;(case aP => exact rfl);(case aB => exact (by repeat (first|(with_reducible first|exact HB.out|apply below_alloc|apply pw_below_drewN|apply below_drew1|refine below_set ?_ GE105.out)|exact HB.out)));(case aF => exact (fun _ _ => trivial));(case aO => exact (rU HO_4.out));(case aS => exact (below_size (by repeat (first|(with_reducible first|exact HB.out|apply below_alloc|apply pw_below_drewN|apply below_drew1|refine below_set ?_ GE105.out)|exact HB.out))));(case aL => have:=LMc29.out;omega);intro v121 w30 ho hb hg hat;rw [← Ny120.out] at ho;have n0_:=Aside0.mk (blk_grown (g:=gb105) (o:=.cells #[.int .i64 a0_0,.int .i64 a0_1,.int .i64 a0_2] 29 (0,0)) (blkU BK105.out) hg (Kd.R_ne HO_4.out BK105.out (by decide)));have n1_:=Aside0.mk (hb);have n2_:=Aside0.mk (ho);clear BK105 HB HO_4;have BK105:=n0_;have HB:=n1_;have HO122:=n2_;clear n0_ n1_ n2_ ho hb hg hat)))
               go_roundg kj21
               case measure => have:=HK1.out;have:=HJ6.out;have:=HJ10.out;have:=HJ21.out;omega
               case rel => exact ⟨(y120),(wrap64 (x5_1 + 1)),(by first|rfl|(simp;done)|(simp [*];done)),H',⟨by have:=HK1.out;have:=HJ6.out;have:=HJ10.out;have:=HJ21.out;omega⟩,⟨rU HO122.out⟩,⟨blkU BK105.out⟩,⟨by repeat (first|(with_reducible first|exact HB.out|apply below_alloc|apply pw_below_drewN|apply below_drew1|refine below_set ?_ GE105.out)|exact HB.out)⟩⟩
              ·
               rw [if_neg c29] at H
               exact absurd H (by simp)
             ·
              rw [if_neg c28] at H
              have c28b0 : (a0_0 == 4) = false:=beq_eq_false_iff_ne.mpr c28
              have c28b1 : (a0_0 != 4) = true:=bne_iff_ne.mpr c28
              by_cases c31 : x4_1.length < 17592186044416
              ·
               rw [if_pos c31] at H
               have LMc31:=Aside0.mk c31;clear c31
               obtain ⟨y123,hy123⟩ : ∃ y_ : List Int,y_ = (x4_1 ++ [wrap64 (x6_6 * (wrap64 (1 - (wrap64 (2 * x7_10)))))]):=⟨_,rfl⟩
               replace H : (spec_l6Row.l0 kj21 y123 (wrap64 (x5_1 + 1)) a0_0 a0_1 a0_2) = some (r1,r2):=by first|(rw [hy123];with_reducible exact H)|(have H2_:=(Option.bind_some _ _).symm.trans H;rw [hy123];with_reducible exact H2_)|(have H2_:=(Option.bind_some _ _).symm.trans H;with_reducible exact H2_)|with_reducible exact H|(rw [hy123];exact H)|exact H
               have Ny123:=Aside0.mk hy123;clear hy123
               have H':=Aside0.mk H;clear H
               go_wp2_with (first|((with_reducible refine gate_builtin (b:=.append) (xs:=#[.tmp 23,.tmp 29]) rfl ?_);at_builtin;refine Kd.R_append (Kd.int .i64) (w0:=w) w.heap.size rfl (.tmp 23) (.tmp 29) 35 3 (.int .i64 0) 8 rfl Try.underlying35 info3 rfl (by decide) (by omega) u4 x4_1 (wrap64 (x6_6 * (wrap64 (1 - (wrap64 (2 * x7_10)))))) [.int .i64 (wrap64 (x6_6 * (wrap64 (1 - (wrap64 (2 * x7_10))))))] (fun _ => True) (fun _ => False) rfl rfl ?aP (fun _ hk => hk.elim) ?aF ?aO ?aB ?aS ?aL ?_;(case aP => exact rfl);(case aB => exact (by repeat (first|(with_reducible first|exact HB.out|apply below_alloc|apply pw_below_drewN|apply below_drew1|refine below_set ?_ GE105.out)|exact HB.out)));(case aF => exact (fun _ _ => trivial));(case aO => exact (rU HO_4.out));(case aS => exact (below_size (by repeat (first|(with_reducible first|exact HB.out|apply below_alloc|apply pw_below_drewN|apply below_drew1|refine below_set ?_ GE105.out)|exact HB.out))));(case aL => have:=LMc31.out;omega);intro v124 w32 ho hb hg hat;rw [← Ny123.out] at ho;have n0_:=Aside0.mk (blk_grown (g:=gb105) (o:=.cells #[.int .i64 a0_0,.int .i64 a0_1,.int .i64 a0_2] 29 (0,0)) (blkU BK105.out) hg (Kd.R_ne HO_4.out BK105.out (by decide)));have n1_:=Aside0.mk (hb);have n2_:=Aside0.mk (ho);clear BK105 HB HO_4;have BK105:=n0_;have HB:=n1_;have HO125:=n2_;clear n0_ n1_ n2_ ho hb hg hat))
               repeat (go_quiet (first|((with_reducible refine gate_builtin (b:=.append) (xs:=#[.tmp 23,.tmp 29]) rfl ?_);at_builtin;refine Kd.R_append (Kd.int .i64) (w0:=w) w.heap.size rfl (.tmp 23) (.tmp 29) 35 3 (.int .i64 0) 8 rfl Try.underlying35 info3 rfl (by decide) (by omega) u4 x4_1 (wrap64 (x6_6 * (wrap64 (1 - (wrap64 (2 * x7_10)))))) [.int .i64 (wrap64 (x6_6 * (wrap64 (1 - (wrap64 (2 * x7_10))))))] (fun _ => True) (fun _ => False) rfl rfl ?aP (fun _ hk => hk.elim) ?aF ?aO ?aB ?aS ?aL ?_;(case aP => exact rfl);(case aB => exact (by repeat (first|(with_reducible first|exact HB.out|apply below_alloc|apply pw_below_drewN|apply below_drew1|refine below_set ?_ GE105.out)|exact HB.out)));(case aF => exact (fun _ _ => trivial));(case aO => exact (rU HO_4.out));(case aS => exact (below_size (by repeat (first|(with_reducible first|exact HB.out|apply below_alloc|apply pw_below_drewN|apply below_drew1|refine below_set ?_ GE105.out)|exact HB.out))));(case aL => have:=LMc31.out;omega);intro v124 w32 ho hb hg hat;rw [← Ny123.out] at ho;have n0_:=Aside0.mk (blk_grown (g:=gb105) (o:=.cells #[.int .i64 a0_0,.int .i64 a0_1,.int .i64 a0_2] 29 (0,0)) (blkU BK105.out) hg (Kd.R_ne HO_4.out BK105.out (by decide)));have n1_:=Aside0.mk (hb);have n2_:=Aside0.mk (ho);clear BK105 HB HO_4;have BK105:=n0_;have HB:=n1_;have HO125:=n2_;clear n0_ n1_ n2_ ho hb hg hat));try go_wp2_with (first|((with_reducible refine gate_builtin (b:=.append) (xs:=#[.tmp 23,.tmp 29]) rfl ?_);at_builtin;refine Kd.R_append (Kd.int .i64) (w0:=w) w.heap.size rfl (.tmp 23) (.tmp 29) 35 3 (.int .i64 0) 8 rfl Try.underlying35 info3 rfl (by decide) (by omega) u4 x4_1 (wrap64 (x6_6 * (wrap64 (1 - (wrap64 (2 * x7_10)))))) [.int .i64 (wrap64 (x6_6 * (wrap64 (1 - (wrap64 (2 * x7_10))))))] (fun _ => True) (fun _ => False) rfl rfl ?aP (fun _ hk => hk.elim) ?aF ?aO ?aB ?aS ?aL ?_;(case aP => exact rfl);(case aB => exact (by repeat (first|(with_reducible first|exact HB.out|apply below_alloc|apply pw_below_drewN|apply below_drew1|refine below_set ?_ GE105.out)|exact HB.out)));(case aF => exact (fun _ _ => trivial));(case aO => exact (rU HO_4.out));(case aS => exact (below_size (by repeat (first|(with_reducible first|exact HB.out|apply below_alloc|apply pw_below_drewN|apply below_drew1|refine below_set ?_ GE105.out)|exact HB.out))));(case aL => have:=LMc31.out;omega);intro v124 w32 ho hb hg hat;rw [← Ny123.out] at ho;have n0_:=Aside0.mk (blk_grown (g:=gb105) (o:=.cells #[.int .i64 a0_0,.int .i64 a0_1,.int .i64 a0_2] 29 (0,0)) (blkU BK105.out) hg (Kd.R_ne HO_4.out BK105.out (by decide)));have n1_:=Aside0.mk (hb);have n2_:=Aside0.mk (ho);clear BK105 HB HO_4;have BK105:=n0_;have HB:=n1_;have HO125:=n2_;clear n0_ n1_ n2_ ho hb hg hat)))
               go_roundg kj21
               case measure => have:=HK1.out;have:=HJ6.out;have:=HJ10.out;have:=HJ21.out;omega
               case rel => exact ⟨(y123),(wrap64 (x5_1 + 1)),(by first|rfl|(simp;done)|(simp [*];done)),H',⟨by have:=HK1.out;have:=HJ6.out;have:=HJ10.out;have:=HJ21.out;omega⟩,⟨rU HO125.out⟩,⟨blkU BK105.out⟩,⟨by repeat (first|(with_reducible first|exact HB.out|apply below_alloc|apply pw_below_drewN|apply below_drew1|refine below_set ?_ GE105.out)|exact HB.out)⟩⟩
              ·
               rw [if_neg c31] at H
               exact absurd H (by simp)
   ·
    rw [if_neg c5] at H
    have c5b0 : decide (x5_1 < 4) = false:=decide_eq_false c5;clear c5
    by_cases c33 : a0_0 = 1
    ·
     rw [if_pos c33] at H
     have c33b0 : (a0_0 == 1) = true:=beq_iff_eq.mpr c33
     have c33b1 : (a0_0 != 1) = false:=bne_eq_false_iff_eq.mpr c33;clear c33
     simp only [Option.some.injEq,Prod.mk.injEq] at H
     obtain ⟨rfl,rfl⟩:=H
     have hcz34_0 : wr.cell? ⟨gb105,0,none⟩ = some (.int .i64 a0_0):=(blk_cell BK105.out 0).trans rfl
     have hcz34_1 : wr.cell? ⟨gb105,1,none⟩ = some (.int .i64 a0_1):=(blk_cell BK105.out 1).trans rfl
     have hcz34_2 : wr.cell? ⟨gb105,2,none⟩ = some (.int .i64 a0_2):=(blk_cell BK105.out 2).trans rfl
     have hfz34_0:=blk_frozen BK105.out 0
     have hfz34_1:=blk_frozen BK105.out 1
     have hfz34_2:=blk_frozen BK105.out 2
     go_wp2
     repeat (go_quiet (fail);try go_wp2)
     go_ret2
     exact ⟨_,by first|rfl|(simp [errW_none,errW_some] <;> rfl)|(simp [*,errW_none,errW_some] <;> rfl),rU HO_4.out,by repeat (first|(with_reducible first|exact HB.out|apply below_alloc|apply pw_below_drewN|apply below_drew1|refine below_set ?_ GE105.out)|exact HB.out)⟩
    ·
     rw [if_neg c33] at H
     have c33b0 : (a0_0 == 1) = false:=beq_eq_false_iff_ne.mpr c33
     have c33b1 : (a0_0 != 1) = true:=bne_iff_ne.mpr c33
     by_cases c35 : a0_0 = 3
     ·
      rw [if_pos c35] at H
      have c35b0 : (a0_0 == 3) = true:=beq_iff_eq.mpr c35
      have c35b1 : (a0_0 != 3) = false:=bne_eq_false_iff_eq.mpr c35;clear c35
      simp only [Option.some.injEq,Prod.mk.injEq] at H
      obtain ⟨rfl,rfl⟩:=H
      have hcz36_0 : wr.cell? ⟨gb105,0,none⟩ = some (.int .i64 a0_0):=(blk_cell BK105.out 0).trans rfl
      have hcz36_1 : wr.cell? ⟨gb105,1,none⟩ = some (.int .i64 a0_1):=(blk_cell BK105.out 1).trans rfl
      have hcz36_2 : wr.cell? ⟨gb105,2,none⟩ = some (.int .i64 a0_2):=(blk_cell BK105.out 2).trans rfl
      have hfz36_0:=blk_frozen BK105.out 0
      have hfz36_1:=blk_frozen BK105.out 1
      have hfz36_2:=blk_frozen BK105.out 2
      go_wp2
      repeat (go_quiet (fail);try go_wp2)
      go_ret2
      exact ⟨_,by first|rfl|(simp [errW_none,errW_some] <;> rfl)|(simp [*,errW_none,errW_some] <;> rfl),rU HO_4.out,by repeat (first|(with_reducible first|exact HB.out|apply below_alloc|apply pw_below_drewN|apply below_drew1|refine below_set ?_ GE105.out)|exact HB.out)⟩
     ·
      rw [if_neg c35] at H
      have c35b0 : (a0_0 == 3) = false:=beq_eq_false_iff_ne.mpr c35
      have c35b1 : (a0_0 != 3) = true:=bne_iff_ne.mpr c35
      simp only [Option.some.injEq,Prod.mk.injEq] at H
      obtain ⟨rfl,rfl⟩:=H
      have hcz37_0 : wr.cell? ⟨gb105,0,none⟩ = some (.int .i64 a0_0):=(blk_cell BK105.out 0).trans rfl
      have hcz37_1 : wr.cell? ⟨gb105,1,none⟩ = some (.int .i64 a0_1):=(blk_cell BK105.out 1).trans rfl
      have hcz37_2 : wr.cell? ⟨gb105,2,none⟩ = some (.int .i64 a0_2):=(blk_cell BK105.out 2).trans rfl
      have hfz37_0:=blk_frozen BK105.out 0
      have hfz37_1:=blk_frozen BK105.out 1
      have hfz37_2:=blk_frozen BK105.out 2
      go_wp2
      repeat (go_quiet (fail);try go_wp2)
      go_ret2
      exact ⟨_,by first|rfl|(simp [errW_none,errW_some] <;> rfl)|(simp [*,errW_none,errW_some] <;> rfl),rU HO_4.out,by repeat (first|(with_reducible first|exact HB.out|apply below_alloc|apply pw_below_drewN|apply below_drew1|refine below_set ?_ GE105.out)|exact HB.out)⟩

end Go.Proofs.Ytmbninbecclbiaa.PA
