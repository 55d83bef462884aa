/- The machine side of functions of this seat, written by the session's program myprint.py: for each Go function a Lean function and the proof that the call answers just it. -/
import Derived.Test.YtmbninbecclbiaaPAx0
import Derived.Test.YtmbninbecclbiaaUp
import Derived.Test.YtmbninbecclbiaaPAx1
import Derived.Test.YtmbninbecclbiaaPAx10
import Derived.Test.YtmbninbecclbiaaPAx11
namespace Go.Proofs.Ytmbninbecclbiaa.PA
open Go.RowKit Go.Proofs.YtmbninbecclbiaaW.PrintWords Go.Proofs.YtmbninbecclbiaaW.PrintLast Go.Proofs.YtmbninbecclbiaaW.PrintMore
attribute [local go_sem] max2_int min2_int max_two min_two max_three min_three max_four min_four   -- for this text's walks alone
set_option linter.unusedVariables false
set_option linter.unusedSimpArgs false

/-! ### spec_WeighFollows: function 9 -/
mutual
def spec_WeighFollows.l0 : Nat → List (S29) → Int → Int → Int → Int → Option (Bool)
 | 0,_,_,_,_,_ => none
 | k + 1,x0,x5,x252000,x252001,x252002 => if x5 < (x0.length : Int) then (if 0 ≤ x5 then ((spec_WeighOk.f ((rd_T29 x0 x5).f0) ((rd_T29 x0 x5).f1) ((rd_T29 x0 x5).f2)).bind fun t253 => (if t253 = true then (spec_WeighFollows.l0 k x0 (wrap64 (x5 + 1)) x252000 x252001 x252002) else (some false))) else (none)) else ((spec_WeighOk.f x252000 x252001 x252002).bind fun t254 => (if t254 = true then (spec_WeighFollows.j1 k x0 (decide ((x0.length : Int) ≥ 6)) x252000 x252001 x252002) else (spec_WeighFollows.j1 k x0 true x252000 x252001 x252002)))
def spec_WeighFollows.j1 : Nat → List (S29) → Bool → Int → Int → Int → Option (Bool)
 | 0,_,_,_,_,_ => none
 | k + 1,x0,x27,x252000,x252001,x252002 => if x27 = true then (some false) else ((some (([] : List (S29)) : List (S29))).bind fun y255 => (if y255.length + x0.length < 5864062014805 then ((some (y255 ++ x0 : List (S29))).bind fun y258 => ((spec_ContraryOf.f k x252000 x252001 x252002).bind fun bt261 => (if y258.length < 5864062014805 then ((spec_CountsFor.f k (y258 ++ [(⟨bt261.1,bt261.2.1,bt261.2.2⟩ : S29)])).bind fun bt267 => (some (!bt267.2))) else (none)))) else (none)))
end
def spec_WeighFollows.f (k : Nat) (l0 : List (S29)) (a1_0 : Int) (a1_1 : Int) (a1_2 : Int) : Option (Bool):=spec_WeighFollows.l0 k l0 0 a1_0 a1_1 a1_2
theorem spec_WeighFollows.mono_l : ∀ k,(∀ y0 y1 y2 y3 y4,LeO (spec_WeighFollows.l0 k y0 y1 y2 y3 y4) (spec_WeighFollows.l0 (k + 1) y0 y1 y2 y3 y4)) ∧ (∀ y0 y1 y2 y3 y4,LeO (spec_WeighFollows.j1 k y0 y1 y2 y3 y4) (spec_WeighFollows.j1 (k + 1) y0 y1 y2 y3 y4))
 | 0 => ⟨fun _ _ _ _ _ r h => by simp [spec_WeighFollows.l0] at h,fun _ _ _ _ _ r h => by simp [spec_WeighFollows.j1] at h⟩
 | k + 1 => by
  obtain ⟨ih0,ih1⟩:=spec_WeighFollows.mono_l k
  refine ⟨?_,?_⟩
  ·
   intro y0 y1 y2 y3 y4
   unfold spec_WeighFollows.l0
   repeat' first
   | (with_reducible exact ih0 _ _ _ _ _)
   | (with_reducible exact ih1 _ _ _ _ _)
   | (with_reducible exact spec_ContraryOf.mono _ _ _ _)
   | (with_reducible exact spec_CountsFor.mono _ _)
   | (with_reducible exact LeO.refl _)
   | (with_reducible exact LeO.none _)
   | (with_reducible refine LeO.ite ?_ ?_)
   | (with_reducible refine LeO.bind ?_ (fun _ => ?_))
   | exact ih0 _ _ _ _ _
   | exact ih1 _ _ _ _ _
   | exact spec_ContraryOf.mono _ _ _ _
   | exact spec_CountsFor.mono _ _
   | exact LeO.none _
   | refine LeO.ite ?_ ?_
   | refine LeO.bind ?_ (fun _ => ?_)
  ·
   intro y0 y1 y2 y3 y4
   unfold spec_WeighFollows.j1
   repeat' first
   | (with_reducible exact ih0 _ _ _ _ _)
   | (with_reducible exact ih1 _ _ _ _ _)
   | (with_reducible exact spec_ContraryOf.mono _ _ _ _)
   | (with_reducible exact spec_CountsFor.mono _ _)
   | (with_reducible exact LeO.refl _)
   | (with_reducible exact LeO.none _)
   | (with_reducible refine LeO.ite ?_ ?_)
   | (with_reducible refine LeO.bind ?_ (fun _ => ?_))
   | exact ih0 _ _ _ _ _
   | exact ih1 _ _ _ _ _
   | exact spec_ContraryOf.mono _ _ _ _
   | exact spec_CountsFor.mono _ _
   | exact LeO.none _
   | refine LeO.ite ?_ ?_
   | refine LeO.bind ?_ (fun _ => ?_)
theorem spec_WeighFollows.mono : ∀ a0 a1 a2 a3 k,LeO (spec_WeighFollows.f k a0 a1 a2 a3) (spec_WeighFollows.f (k + 1) a0 a1 a2 a3):=by
 intro a0 a1 a2 a3 k
 obtain ⟨ih0,ih1⟩:=spec_WeighFollows.mono_l k
 unfold spec_WeighFollows.f
 repeat' first
   | (with_reducible exact ih0 _ _ _ _ _)
   | (with_reducible exact ih1 _ _ _ _ _)
   | (with_reducible exact spec_ContraryOf.mono _ _ _ _)
   | (with_reducible exact spec_CountsFor.mono _ _)
   | (with_reducible exact LeO.refl _)
   | (with_reducible exact LeO.none _)
   | (with_reducible refine LeO.ite ?_ ?_)
   | (with_reducible refine LeO.bind ?_ (fun _ => ?_))
   | exact ih0 _ _ _ _ _
   | exact ih1 _ _ _ _ _
   | exact spec_ContraryOf.mono _ _ _ _
   | exact spec_CountsFor.mono _ _
   | exact LeO.none _
   | refine LeO.ite ?_ ?_
   | refine LeO.bind ?_ (fun _ => ?_)
def spec_WeighFollows.T8 : Bool × List (List Nat × List Nat):=(true,[([],[]),([],[]),([0,1],[0,1]),([],[]),([3,2],[3]),([4],[4]),([2,5,4],[2,5]),([6,6],[6]),([7],[7]),([8],[8]),([8],[8]),([9,7,0,1,2,3,4,5,6,7,8,9],[9]),([10,11,0,1,2,3,4,5,6,7,8,9,10,11],[10])])
def spec_WeighFollows.B8 : List Nat:=[0,0,3,0,15,31,63,127,255,511,511,1023,4095]
theorem spec_WeighFollows.tab8 : rtab .any (opsOf Try.f9 8) = spec_WeighFollows.T8:=by kernel_rfl
theorem spec_WeighFollows.bits8 : waitsOk spec_WeighFollows.T8.2 spec_WeighFollows.B8 = true:=by kernel_rfl
set_option maxHeartbeats 8000000 in
set_option maxRecDepth 100000 in
theorem spec_WeighFollows.calls (k : Nat) (A0 : Option Addr) (c0 : Nat) (l0 : List (S29)) (a1_0 : Int) (a1_1 : Int) (a1_2 : Int) (r : Bool) (w : World) (hr0 : Kd.C k29 w A0 l0.length l0) (hc0 : l0.length ≤ c0) (h : spec_WeighFollows.f k l0 a1_0 a1_1 a1_2 = some r) :
  Calls Try.prog 9 #[.slice A0 l0.length c0,.agg #[.int .i64 a1_0,.int .i64 a1_1,.int .i64 a1_2]] w fun e w' => e = .returned (.bool r) ∧ Below w.heap.size w w':=by
 have hu29:=Try.underlying29
 have HR0:=Aside0.mk hr0
 have HC0:=Aside0.mk hc0;clear hr0 hc0;have HB:=Aside0.mk (Below.refl w.heap.size w)
 have H : (spec_WeighFollows.l0 k l0 0 a1_0 a1_1 a1_2) = some r:=h;clear h
 have H':=Aside0.mk H;clear H
 go_enter Try.func9,Try.ntmps9
 go_wp2_with (first|((with_reducible refine gate_dst (N:=3) rfl ?_);(try (refine gate_guard (by rfl) ?_;dsimp only));refine box_event ?hg (N:=3) ?hd (cs:=#[.int .i64 a1_0,.int .i64 a1_1,.int .i64 a1_2]) (t:=29) ?hr ?_;(case hd => rfl);(case hg => rfl);(case hr => first|(go_simp;done)|(go_simp;rfl));intro gb251 hg w3 hbox hb;have n0_:=Aside0.mk (below_step (belU HB.out) hb);have n1_:=Aside0.mk (hbox);have n2_:=Aside0.mk ((by rw [hg];exact (below_size (belU HB.out)) : w.heap.size ≤ gb251));have n3_:=Aside0.mk ((by rw [hg];exact (below_size (belU HB.out)) : w.heap.size ≤ gb251));clear HB;have HB:=n0_;have BK251:=n1_;have GW251:=n2_;have GE251:=n3_;clear n0_ n1_ n2_ n3_ hb hbox hg))
 go_loopg [5] k (fun kq v5 w' => ∃ (x5_1 : Int),v5 = .int .i64 x5_1 ∧ Aside0 (spec_WeighFollows.l0 kq l0 x5_1 a1_0 a1_1 a1_2 = some r) ∧ Aside0 (kq ≤ k) ∧ Aside0 (w'.heap[gb251]? = some (.cells #[.int .i64 a1_0,.int .i64 a1_1,.int .i64 a1_2] 29 (0,0))) ∧ Aside0 (Below w.heap.size w w'))
 case atStart => exact ⟨(0),(by first|rfl|(simp;done)|(simp [*];done)),H',⟨Nat.le_refl _⟩,⟨blkU BK251.out⟩,⟨by repeat (first|(with_reducible first|exact HB.out|apply below_alloc|apply pw_below_drewN|apply below_drew1|refine below_set ?_ GE251.out)|exact HB.out)⟩⟩
 case round =>
  clear H'
  try clear p2
  obtain ⟨x5_1,rfl,HA,HK1,BK251,HB⟩:=hrel
  cases gk with
  | zero => exact absurd HA.out (by simp [spec_WeighFollows.l0])
  | succ k1 =>
   have H:=HA.out;clear HA
   simp only [spec_WeighFollows.l0] at H
   by_cases c4 : x5_1 < (l0.length : Int)
   ·
    rw [if_pos c4] at H
    have c4b0 : decide (x5_1 < (l0.length : Int)) = true:=decide_eq_true c4;clear c4
    by_cases c5 : 0 ≤ x5_1
    ·
     rw [if_pos c5] at H
     have c5b0 : decide (0 ≤ x5_1) = true:=decide_eq_true c5;clear c5
     replace H:=Option.bind_eq_some_iff.mp H
     obtain ⟨t253,A60,H⟩:=H
     replace H : (if t253 = true then (spec_WeighFollows.l0 k1 l0 (wrap64 (x5_1 + 1)) a1_0 a1_1 a1_2) else (some false)) = some r:=H
     have A6:=Aside0.mk A60;clear A60
     by_cases c7 : t253 = true
     ·
      subst c7
      have H1 : (spec_WeighFollows.l0 k1 l0 (wrap64 (x5_1 + 1)) a1_0 a1_1 a1_2) = some r:=by rw [if_pos rfl] at H;exact H
      clear H;have H:=H1;clear H1
      have H':=Aside0.mk H;clear H
      have p252 : 0 ≤ (x5_1 : Int):=of_decide_eq_true (by first|(with_reducible assumption)|assumption)
      have q252 : x5_1 < (l0.length : Int):=of_decide_eq_true (by first|(with_reducible assumption)|assumption)
      obtain ⟨ad252,e252,hx252_0,hx252_1,hx252_2⟩:=at_T29 HR0.out x5_1 p252 q252
      cases e252
      replace hx252_0:=(HB.out.cell (World.block_lt_of_cell? w _ hx252_0)).trans hx252_0
      replace hx252_1:=(HB.out.cell (World.block_lt_of_cell? w _ hx252_1)).trans hx252_1
      replace hx252_2:=(HB.out.cell (World.block_lt_of_cell? w _ hx252_2)).trans hx252_2
      replace p252:=eq_true p252
      replace q252:=eq_true q252
      go_wp2_with (first|((with_reducible refine gate_callee (f:=34) rfl ?_);refine goesL_ (some 18) rfl rfl Try.func34 (by kernel_rfl) rfl #[.agg #[.int .i64 ((rd_T29 l0 x5_1).f0),.int .i64 ((rd_T29 l0 x5_1).f1),.int .i64 ((rd_T29 l0 x5_1).f2)]] rfl (by (try simp only [List.map_toArray,List.map_cons,List.map_nil]);first|done|rfl|(simp only [List.length_drop,List.length_take];rfl)) ?_;(with_reducible refine (spec_WeighOk.calls ((rd_T29 l0 x5_1).f0) ((rd_T29 l0 x5_1).f1) ((rd_T29 l0 x5_1).f2) true _ A6.out).mono ?_);rintro e w8 ⟨rfl,hb⟩;refine ⟨_,rfl,?_⟩;have n0_:=Aside0.mk (blk_below (g:=gb251) (o:=.cells #[.int .i64 a1_0,.int .i64 a1_1,.int .i64 a1_2] 29 (0,0)) (blkU BK251.out) hb);have n1_:=Aside0.mk (below_step (by repeat (first|(with_reducible first|exact HB.out|apply below_alloc|apply pw_below_drewN|apply below_drew1|refine below_set ?_ GE251.out)|exact HB.out)) hb);clear BK251 HB;have BK251:=n0_;have HB:=n1_;clear n0_ n1_;(try clear hb);(try clear hb2);(try clear hk);(try clear hi)))
      go_roundg k1
      case measure => have:=HK1.out;omega
      case rel => exact ⟨(wrap64 (x5_1 + 1)),(by first|rfl|(simp;done)|(simp [*];done)),H',⟨by have:=HK1.out;omega⟩,⟨blkU BK251.out⟩,⟨by repeat (first|(with_reducible first|exact HB.out|apply below_alloc|apply pw_below_drewN|apply below_drew1|refine below_set ?_ GE251.out)|exact HB.out)⟩⟩
     ·
      replace c7:=Bool.eq_false_iff.mpr c7;subst c7
      have H1 : (some false) = some r:=by rw [if_neg (show ¬ (false = true) by decide)] at H;exact H
      clear H;have H:=H1;clear H1
      obtain rfl:=Option.some.inj H
      have p252 : 0 ≤ (x5_1 : Int):=of_decide_eq_true (by first|(with_reducible assumption)|assumption)
      have q252 : x5_1 < (l0.length : Int):=of_decide_eq_true (by first|(with_reducible assumption)|assumption)
      obtain ⟨ad252,e252,hx252_0,hx252_1,hx252_2⟩:=at_T29 HR0.out x5_1 p252 q252
      cases e252
      replace hx252_0:=(HB.out.cell (World.block_lt_of_cell? w _ hx252_0)).trans hx252_0
      replace hx252_1:=(HB.out.cell (World.block_lt_of_cell? w _ hx252_1)).trans hx252_1
      replace hx252_2:=(HB.out.cell (World.block_lt_of_cell? w _ hx252_2)).trans hx252_2
      replace p252:=eq_true p252
      replace q252:=eq_true q252
      go_wp2_with (first|((with_reducible refine gate_callee (f:=34) rfl ?_);refine goesL_ (some 18) rfl rfl Try.func34 (by kernel_rfl) rfl #[.agg #[.int .i64 ((rd_T29 l0 x5_1).f0),.int .i64 ((rd_T29 l0 x5_1).f1),.int .i64 ((rd_T29 l0 x5_1).f2)]] rfl (by (try simp only [List.map_toArray,List.map_cons,List.map_nil]);first|done|rfl|(simp only [List.length_drop,List.length_take];rfl)) ?_;(with_reducible refine (spec_WeighOk.calls ((rd_T29 l0 x5_1).f0) ((rd_T29 l0 x5_1).f1) ((rd_T29 l0 x5_1).f2) false _ A6.out).mono ?_);rintro e w9 ⟨rfl,hb⟩;refine ⟨_,rfl,?_⟩;have n0_:=Aside0.mk (blk_below (g:=gb251) (o:=.cells #[.int .i64 a1_0,.int .i64 a1_1,.int .i64 a1_2] 29 (0,0)) (blkU BK251.out) hb);have n1_:=Aside0.mk (below_step (by repeat (first|(with_reducible first|exact HB.out|apply below_alloc|apply pw_below_drewN|apply below_drew1|refine below_set ?_ GE251.out)|exact HB.out)) hb);clear BK251 HB;have BK251:=n0_;have HB:=n1_;clear n0_ n1_;(try clear hb);(try clear hb2);(try clear hk);(try clear hi)))
      go_ret
      exact ⟨by first|rfl|(simp [errW_none,errW_some] <;> rfl)|(simp [*,errW_none,errW_some] <;> rfl),by repeat (first|(with_reducible first|exact HB.out|apply below_alloc|apply pw_below_drewN|apply below_drew1|refine below_set ?_ GE251.out)|exact HB.out)⟩
    ·
     rw [if_neg c5] at H
     exact absurd H (by simp)
   ·
    rw [if_neg c4] at H
    have c4b0 : decide (x5_1 < (l0.length : Int)) = false:=decide_eq_false c4;clear c4
    have HC10:=Aside0.mk H;clear H
    go_upto_region 6 with (fail)
    go_cut [27] (fun v27 wc => ∃ (kq : Nat) (x27_9 : Bool),v27 = .bool x27_9 ∧ Aside0 (spec_WeighFollows.j1 kq l0 x27_9 a1_0 a1_1 a1_2 = some r) ∧ Aside0 (kq ≤ k1) ∧ Aside0 (wc.heap[gb251]? = some (.cells #[.int .i64 a1_0,.int .i64 a1_1,.int .i64 a1_2] 29 (0,0))) ∧ Aside0 (Below w.heap.size w wc))
    case first =>
     have H:=HC10.out;clear HC10
     replace H:=Option.bind_eq_some_iff.mp H
     obtain ⟨t254,A110,H⟩:=H
     replace H : (if t254 = true then (spec_WeighFollows.j1 k1 l0 (decide ((l0.length : Int) ≥ 6)) a1_0 a1_1 a1_2) else (spec_WeighFollows.j1 k1 l0 true a1_0 a1_1 a1_2)) = some r:=H
     have A11:=Aside0.mk A110;clear A110
     by_cases c12 : t254 = true
     ·
      subst c12
      have H1 : (spec_WeighFollows.j1 k1 l0 (decide ((l0.length : Int) ≥ 6)) a1_0 a1_1 a1_2) = some r:=by rw [if_pos rfl] at H;exact H
      clear H;have H:=H1;clear H1
      have H':=Aside0.mk H;clear H
      have hcz13_0 : wr.cell? ⟨gb251,0,none⟩ = some (.int .i64 a1_0):=(blk_cell BK251.out 0).trans rfl
      have hcz13_1 : wr.cell? ⟨gb251,1,none⟩ = some (.int .i64 a1_1):=(blk_cell BK251.out 1).trans rfl
      have hcz13_2 : wr.cell? ⟨gb251,2,none⟩ = some (.int .i64 a1_2):=(blk_cell BK251.out 2).trans rfl
      have hfz13_0:=blk_frozen BK251.out 0
      have hfz13_1:=blk_frozen BK251.out 1
      have hfz13_2:=blk_frozen BK251.out 2
      go_wp2_with (first|((with_reducible refine gate_callee (f:=34) rfl ?_);refine goesL_ (some 21) rfl rfl Try.func34 (by kernel_rfl) rfl #[.agg #[.int .i64 a1_0,.int .i64 a1_1,.int .i64 a1_2]] rfl (by (try simp only [List.map_toArray,List.map_cons,List.map_nil]);first|done|rfl|(simp only [List.length_drop,List.length_take];rfl)) ?_;(with_reducible refine (spec_WeighOk.calls a1_0 a1_1 a1_2 true _ A11.out).mono ?_);rintro e w14 ⟨rfl,hb⟩;refine ⟨_,rfl,?_⟩;have n0_:=Aside0.mk (blk_below (g:=gb251) (o:=.cells #[.int .i64 a1_0,.int .i64 a1_1,.int .i64 a1_2] 29 (0,0)) (blkU BK251.out) hb);have n1_:=Aside0.mk (below_step (by repeat (first|(with_reducible first|exact HB.out|apply below_alloc|apply pw_below_drewN|apply below_drew1|refine below_set ?_ GE251.out)|exact HB.out)) hb);clear BK251 HB;have BK251:=n0_;have HB:=n1_;clear n0_ n1_;(try clear hb);(try clear hb2);(try clear hk);(try clear hi)))
      go_meet
      case rel => exact ⟨_,(decide ((l0.length : Int) ≥ 6)),(by first|rfl|(simp;done)|(simp [*];done)),H',⟨by have:=HK1.out;first|omega|exact Nat.le_refl _⟩,⟨blkU BK251.out⟩,⟨by repeat (first|(with_reducible first|exact HB.out|apply below_alloc|apply pw_below_drewN|apply below_drew1|refine below_set ?_ GE251.out)|exact HB.out)⟩⟩
     ·
      replace c12:=Bool.eq_false_iff.mpr c12;subst c12
      have H1 : (spec_WeighFollows.j1 k1 l0 true a1_0 a1_1 a1_2) = some r:=by rw [if_neg (show ¬ (false = true) by decide)] at H;exact H
      clear H;have H:=H1;clear H1
      have H':=Aside0.mk H;clear H
      have hcz15_0 : wr.cell? ⟨gb251,0,none⟩ = some (.int .i64 a1_0):=(blk_cell BK251.out 0).trans rfl
      have hcz15_1 : wr.cell? ⟨gb251,1,none⟩ = some (.int .i64 a1_1):=(blk_cell BK251.out 1).trans rfl
      have hcz15_2 : wr.cell? ⟨gb251,2,none⟩ = some (.int .i64 a1_2):=(blk_cell BK251.out 2).trans rfl
      have hfz15_0:=blk_frozen BK251.out 0
      have hfz15_1:=blk_frozen BK251.out 1
      have hfz15_2:=blk_frozen BK251.out 2
      go_wp2_with (first|((with_reducible refine gate_callee (f:=34) rfl ?_);refine goesL_ (some 21) rfl rfl Try.func34 (by kernel_rfl) rfl #[.agg #[.int .i64 a1_0,.int .i64 a1_1,.int .i64 a1_2]] rfl (by (try simp only [List.map_toArray,List.map_cons,List.map_nil]);first|done|rfl|(simp only [List.length_drop,List.length_take];rfl)) ?_;(with_reducible refine (spec_WeighOk.calls a1_0 a1_1 a1_2 false _ A11.out).mono ?_);rintro e w16 ⟨rfl,hb⟩;refine ⟨_,rfl,?_⟩;have n0_:=Aside0.mk (blk_below (g:=gb251) (o:=.cells #[.int .i64 a1_0,.int .i64 a1_1,.int .i64 a1_2] 29 (0,0)) (blkU BK251.out) hb);have n1_:=Aside0.mk (below_step (by repeat (first|(with_reducible first|exact HB.out|apply below_alloc|apply pw_below_drewN|apply below_drew1|refine below_set ?_ GE251.out)|exact HB.out)) hb);clear BK251 HB;have BK251:=n0_;have HB:=n1_;clear n0_ n1_;(try clear hb);(try clear hb2);(try clear hk);(try clear hi)))
      go_meet
      case rel => exact ⟨_,(true),(by first|rfl|(simp;done)|(simp [*];done)),H',⟨by have:=HK1.out;first|omega|exact Nat.le_refl _⟩,⟨blkU BK251.out⟩,⟨by repeat (first|(with_reducible first|exact HB.out|apply below_alloc|apply pw_below_drewN|apply below_drew1|refine below_set ?_ GE251.out)|exact HB.out)⟩⟩
    case rest =>
     clear HC10
     try clear c1
     try clear p2
     try clear q2
     try clear hx2
     try clear c3
     try clear c4
     try clear c4b0
     try clear c5
     try clear c5b0
     try clear p6
     try clear c7
     try clear c9
     try clear c12
     try clear hcz13_0
     try clear hcz13_1
     try clear hcz13_2
     try clear hcz15_0
     try clear hcz15_1
     try clear hcz15_2
     try clear hfz13_0
     try clear hfz13_1
     try clear hfz13_2
     try clear hfz15_0
     try clear hfz15_1
     try clear hfz15_2
     try clear hx252_0
     try clear hx252_1
     try clear hx252_2
     try clear p2
     try clear p252
     try clear q252
     obtain ⟨kq,x27_9,rfl,HA,HJ9,BK251,HB⟩:=hcut
     cases kq with
     | zero => exact absurd HA.out (by simp [spec_WeighFollows.j1])
     | succ kj9 =>
      have H:=HA.out;clear HA
      simp only [spec_WeighFollows.j1] at H
      by_cases c17 : x27_9 = true
      ·
       subst c17
       have H1 : (some false) = some r:=by rw [if_pos rfl] at H;exact H
       clear H;have H:=H1;clear H1
       obtain rfl:=Option.some.inj H
       go_wp2
       go_ret
       exact ⟨by first|rfl|(simp [errW_none,errW_some] <;> rfl)|(simp [*,errW_none,errW_some] <;> rfl),by repeat (first|(with_reducible first|exact HB.out|apply below_alloc|apply pw_below_drewN|apply below_drew1|refine below_set ?_ GE251.out)|exact HB.out)⟩
      ·
       replace c17:=Bool.eq_false_iff.mpr c17;subst c17
       have H1 : ((some (([] : List (S29)) : List (S29))).bind fun y255 => (if y255.length + l0.length < 5864062014805 then ((some (y255 ++ l0 : List (S29))).bind fun y258 => ((spec_ContraryOf.f kj9 a1_0 a1_1 a1_2).bind fun bt261 => (if y258.length < 5864062014805 then ((spec_CountsFor.f kj9 (y258 ++ [(⟨bt261.1,bt261.2.1,bt261.2.2⟩ : S29)])).bind fun bt267 => (some (!bt267.2))) else (none)))) else (none))) = some r:=by rw [if_neg (show ¬ (false = true) by decide)] at H;exact H
       clear H;have H:=H1;clear H1
       obtain ⟨y255,hy255⟩ : ∃ y_ : List (S29),y_ = (([] : List (S29))):=⟨_,rfl⟩
       replace H : (if y255.length + l0.length < 5864062014805 then ((some (y255 ++ l0 : List (S29))).bind fun y258 => ((spec_ContraryOf.f kj9 a1_0 a1_1 a1_2).bind fun bt261 => (if y258.length < 5864062014805 then ((spec_CountsFor.f kj9 (y258 ++ [(⟨bt261.1,bt261.2.1,bt261.2.2⟩ : S29)])).bind fun bt267 => (some (!bt267.2))) else (none)))) else (none)) = some r:=by first|(rw [hy255];with_reducible exact H)|(have H2_:=(Option.bind_some _ _).symm.trans H;rw [hy255];with_reducible exact H2_)|(have H2_:=(Option.bind_some _ _).symm.trans H;with_reducible exact H2_)|with_reducible exact H|(rw [hy255];exact H)|exact H
       have Ny255:=Aside0.mk hy255;clear hy255
       by_cases c18 : y255.length + l0.length < 5864062014805
       ·
        rw [if_pos c18] at H
        have LMc18:=Aside0.mk c18;clear c18
        obtain ⟨y258,hy258⟩ : ∃ y_ : List (S29),y_ = (y255 ++ l0):=⟨_,rfl⟩
        replace H : ((spec_ContraryOf.f kj9 a1_0 a1_1 a1_2).bind fun bt261 => (if y258.length < 5864062014805 then ((spec_CountsFor.f kj9 (y258 ++ [(⟨bt261.1,bt261.2.1,bt261.2.2⟩ : S29)])).bind fun bt267 => (some (!bt267.2))) else (none))) = some r:=by first|(rw [hy258];with_reducible exact H)|(have H2_:=(Option.bind_some _ _).symm.trans H;rw [hy258];with_reducible exact H2_)|(have H2_:=(Option.bind_some _ _).symm.trans H;with_reducible exact H2_)|with_reducible exact H|(rw [hy258];exact H)|exact H
        have Ny258:=Aside0.mk hy258;clear hy258
        replace H:=Option.bind_eq_some_iff.mp H
        obtain ⟨⟨t261,t262,t263⟩,A190,H⟩:=H
        replace H : (if y258.length < 5864062014805 then ((spec_CountsFor.f kj9 (y258 ++ [(⟨t261,t262,t263⟩ : S29)])).bind fun bt267 => (some (!bt267.2))) else (none)) = some r:=H
        have A19:=Aside0.mk A190;clear A190
        by_cases c20 : y258.length < 5864062014805
        ·
         rw [if_pos c20] at H
         have LMc20:=Aside0.mk c20;clear c20
         obtain ⟨y264,hy264⟩ : ∃ y_ : List (S29),y_ = (y258 ++ [(⟨t261,t262,t263⟩ : S29)]):=⟨_,rfl⟩
         replace H : ((spec_CountsFor.f kj9 y264).bind fun bt267 => (some (!bt267.2))) = some r:=by first|(rw [hy264];with_reducible exact H)|(have H2_:=(Option.bind_some _ _).symm.trans H;rw [hy264];with_reducible exact H2_)|(have H2_:=(Option.bind_some _ _).symm.trans H;with_reducible exact H2_)|with_reducible exact H|(rw [hy264];exact H)|exact H
         have Ny264:=Aside0.mk hy264;clear hy264
         replace H:=Option.bind_eq_some_iff.mp H
         obtain ⟨⟨t267,t268⟩,A210,H⟩:=H
         replace H : (some (!t268)) = some r:=H
         have A21:=Aside0.mk A210;clear A210
         obtain rfl:=Option.some.inj H
         try go_wp2
         have n0_:=Aside0.mk (blk_drew BK251.out);have n1_:=Aside0.mk (below_drew1 HB.out);clear BK251 HB;have BK251:=n0_;have HB:=n1_;clear n0_ n1_
         refine start_ (n:=13) (S:=fun w' => w'.cell? ⟨gb251,0,none⟩ = some (.int .i64 a1_0) ∧ w'.cell? ⟨gb251,1,none⟩ = some (.int .i64 a1_1) ∧ w'.cell? ⟨gb251,2,none⟩ = some (.int .i64 a1_2)) (ds:=[]) #[false,false,false,false,false,false,false,false,false,false,false,false,false] (by kernel_rfl) rfl rfl ⟨(blk_cell BK251.out 0).trans rfl,(blk_cell BK251.out 1).trans rfl,(blk_cell BK251.out 2).trans rfl⟩ (fun hHeld => ?_);refine with_tabW spec_WeighFollows.tab8 spec_WeighFollows.bits8 (fun HT_ HW_ => ?_)
         generalize wc.drew = w22 at BK251 HB hHeld ⊢
         refine pure_ (i:=1) (N:=some 30) (v:=?_) (a':=?_) #[false,true,false,false,false,false,false,false,false,false,false,false,false] rfl rfl (any_of HT_.out (by kernel_rfl)) (fun _ _ _ h => h) (Or.inl ⟨by rfl,?_⟩) ?_ ?_;rotate_left
         ·
          intro w'
          go_simp
          with_reducible rfl
         rotate_left
         ·
          simp only [Act.put,List.setIfInBounds_toArray,List.set_cons_zero,List.set_cons_succ,i64_w,i32_w]
          rfl
         refine take_ (i:=3) (N:=some 32) (v:=?_) (a':=?_) #[false,true,false,true,false,false,false,false,false,false,false,false,false] rfl rfl (take_ofW HT_.out HW_.out (by kernel_rfl)) (fun _ _ _ h => h) (Or.inl ⟨by rfl,?_⟩) hHeld ?_ ?_;rotate_left
         ·
          rintro w' ⟨s0,s1,s2⟩
          go_simp
          with_reducible rfl
         rotate_left
         ·
          simp only [Act.put,List.setIfInBounds_toArray,List.set_cons_zero,List.set_cons_succ,i64_w,i32_w]
          rfl
         refine one_ (i:=0) (N:=some 29) #[true,true,false,true,false,false,false,false,false,false,false,false,false] rfl rfl (one_of HT_.out (by kernel_rfl)) (by decide) (fun K hK => ?_)
         refine Kd.R_lit_step k29 _ 29 ?hg (N:=29) ?hd (xs:=([] : List (S29))) (inner:=[]) (ok:=fun _ => True) (okp:=fun _ => True) ?hr ?hp (fun _ hk => hk) trivial (Below.refl _ _) (Nat.le_refl _) (by simp) ?_;(case hd => rfl);(case hg => rfl);(case hr => first|(go_simp;done)|(go_simp;rfl));(case hp => exact (Reps.none _ _));intro v256 w23 ho24 hb hg_ hnew_;clear hg_ hnew_
         (first|rw [← Ny255.out] at ho24|(simp only [Int.reduceToNat] at ho24;rw [← Ny255.out] at ho24));have n0_:=Aside0.mk (Kd.R_lower (Kd.R_newB ho24 (g:=gb251) (o:=.cells #[.int .i64 a1_0,.int .i64 a1_1,.int .i64 a1_2] 29 (0,0)) (blkU BK251.out)) (below_size (by repeat (first|(with_reducible first|exact HB.out|apply below_alloc|apply pw_below_drewN|apply below_drew1|refine below_set ?_ GE251.out)|exact HB.out))));have n1_:=Aside0.mk (blk_below (g:=gb251) (o:=.cells #[.int .i64 a1_0,.int .i64 a1_1,.int .i64 a1_2] 29 (0,0)) (blkU BK251.out) hb);have n2_:=Aside0.mk (below_step (by repeat (first|(with_reducible first|exact HB.out|apply below_alloc|apply pw_below_drewN|apply below_drew1|refine below_set ?_ GE251.out)|exact HB.out)) hb);clear BK251 HB;have HO257:=n0_;have BK251:=n1_;have HB:=n2_;clear n0_ n1_ n2_ hb ho24
         refine hK.out _ _ ⟨(blk_cell BK251.out 0).trans rfl,(blk_cell BK251.out 1).trans rfl,(blk_cell BK251.out 2).trans rfl⟩ (fun hHeld => ?_);clear hK K
         refine norm_ (a':=?_) ?_ ?_;rotate_left
         ·
          show Act.put _ (some 29) _ = _
          simp only [Act.put,List.setIfInBounds_toArray,List.set_cons_zero,List.set_cons_succ,i64_w,i32_w]
          rfl
         refine one_ (i:=2) (N:=some 31) #[true,true,true,true,false,false,false,false,false,false,false,false,false] rfl rfl (one_of HT_.out (by kernel_rfl)) (by decide) (fun K hK => ?_)
         refine Kd.R_append_rows_step k29 (w0:=w) w.heap.size (by rfl) (.tmp 29) (.tmp 30) 27 29 (.agg #[(.int .i64 0),(.int .i64 0),(.int .i64 0)]) 24 rfl Try.underlying27 info29 rfl (by decide) (by omega) v256 y255 l0 _ _ _ (fun k_ => k_ ≠ gb251) (fun _ => False) rfl rfl ?aO ?aR (fun _ _ h => h) (fun _ h => h.elim) ?aF ?aB ?aS ?aL ?_
         (case aR => exact cU (Kd.C_below HR0.out HB.out))
         (case aB => exact (by repeat (first|(with_reducible first|exact HB.out|apply below_alloc|apply pw_below_drewN|apply below_drew1|refine below_set ?_ GE251.out)|exact HB.out)))
         (case aF => exact (fun k_ hk => Kd.freshB (g:=gb251) (o:=.cells #[.int .i64 a1_0,.int .i64 a1_1,.int .i64 a1_2] 29 (0,0)) (blkU BK251.out) k_ hk))
         (case aO => exact (by (with_reducible repeat (first|apply Kd.R_alloc|apply Kd.R_drewN|apply Kd.R_drew));exact Kd.R_mono HO257.out (fun _ hk => hk.2)))
         (case aS => exact (below_size (by repeat (first|(with_reducible first|exact HB.out|apply below_alloc|apply pw_below_drewN|apply below_drew1|refine below_set ?_ GE251.out)|exact HB.out))))
         (case aL => have:=LMc18.out;omega);intro v259 w25 ho hb hg hat
         rw [← Ny258.out] at ho;have n0_:=Aside0.mk (blk_grown (g:=gb251) (o:=.cells #[.int .i64 a1_0,.int .i64 a1_1,.int .i64 a1_2] 29 (0,0)) (blkU BK251.out) hg (Kd.R_away HO257.out (fun _ hk => hk.2)));have n1_:=Aside0.mk (hb);have n2_:=Aside0.mk (ho);clear BK251 HB HO257;have BK251:=n0_;have HB:=n1_;have HO260:=n2_;clear n0_ n1_ n2_ ho hb hg hat
         refine hK.out _ _ ⟨(blk_cell BK251.out 0).trans rfl,(blk_cell BK251.out 1).trans rfl,(blk_cell BK251.out 2).trans rfl⟩ (fun hHeld => ?_);clear hK K
         refine norm_ (a':=?_) ?_ ?_;rotate_left
         ·
          show Act.put _ (some 31) _ = _
          simp only [Act.put,List.setIfInBounds_toArray,List.set_cons_zero,List.set_cons_succ,i64_w,i32_w]
          rfl
         refine one_ (i:=4) (N:=some 33) #[true,true,true,true,true,false,false,false,false,false,false,false,false] rfl rfl (one_of HT_.out (by kernel_rfl)) (by decide) (fun K hK => ?_)
         refine goes_ Try.func35 (by kernel_rfl) rfl #[.agg #[.int .i64 a1_0,.int .i64 a1_1,.int .i64 a1_2]] (by rfl) rfl rfl (by (try simp only [List.map_toArray,List.map_cons,List.map_nil]);first|done|rfl|(simp only [List.length_drop,List.length_take];rfl)) ?_
         with_reducible refine (spec_ContraryOf.calls kj9 a1_0 a1_1 a1_2 t261 t262 t263 _ A19.out).mono ?_
         rintro e w26 ⟨rfl,hb⟩
         refine ⟨_,rfl,?_⟩;have n0_:=Aside0.mk (Kd.R_below (rU HO260.out) hb);have n1_:=Aside0.mk (blk_below (g:=gb251) (o:=.cells #[.int .i64 a1_0,.int .i64 a1_1,.int .i64 a1_2] 29 (0,0)) (blkU BK251.out) hb);have n2_:=Aside0.mk (below_step (by repeat (first|(with_reducible first|exact HB.out|apply below_alloc|apply pw_below_drewN|apply below_drew1|refine below_set ?_ GE251.out)|exact HB.out)) hb);clear HO260 BK251 HB;have HO260:=n0_;have BK251:=n1_;have HB:=n2_;clear n0_ n1_ n2_
         (try clear hb)
         (try clear hb2)
         (try clear hk)
         (try clear hi)
         refine hK.out _ _ ⟨(blk_cell BK251.out 0).trans rfl,(blk_cell BK251.out 1).trans rfl,(blk_cell BK251.out 2).trans rfl⟩ (fun hHeld => ?_);clear hK K
         refine norm_ (a':=?_) ?_ ?_;rotate_left
         ·
          show Act.put _ (some 33) _ = _
          simp only [Act.put,List.setIfInBounds_toArray,List.set_cons_zero,List.set_cons_succ,i64_w,i32_w]
          rfl
         refine one_ (i:=5) (N:=some 34) #[true,true,true,true,true,true,false,false,false,false,false,false,false] rfl rfl (one_of HT_.out (by kernel_rfl)) (by decide) (fun K hK => ?_)
         refine value_ (w1:=?_) (v:=?_) (by rfl) rfl ?_ ?_
         rotate_left 2
         ·
          go_simp
          constructor
          ·
           rfl
          ·
           rfl
         refine hK.out _ _ ⟨(blk_cell (blk_alloc BK251.out _) 0).trans rfl,(blk_cell (blk_alloc BK251.out _) 1).trans rfl,(blk_cell (blk_alloc BK251.out _) 2).trans rfl⟩ (fun hHeld => ?_);clear hK K
         refine norm_ (a':=?_) ?_ ?_;rotate_left
         ·
          show Act.put _ (some 34) _ = _
          simp only [Act.put,List.setIfInBounds_toArray,List.set_cons_zero,List.set_cons_succ,i64_w,i32_w]
          rfl
         refine one_ (i:=6) (N:=some 35) #[true,true,true,true,true,true,true,false,false,false,false,false,false] rfl rfl (one_of HT_.out (by kernel_rfl)) (by decide) (fun K hK => ?_)
         refine Kd.R_append_step k29 (w0:=w) w.heap.size (by rfl) (.tmp 31) (.tmp 34) 27 29 (.agg #[(.int .i64 0),(.int .i64 0),(.int .i64 0)]) 24 rfl Try.underlying27 info29 rfl (by decide) (by omega) v259 y258 (⟨t261,t262,t263⟩ : S29) [.int .i64 t261,.int .i64 t262,.int .i64 t263] (fun k_ => k_ ≠ gb251) (fun _ => False) rfl rfl ?aP (fun _ hk => hk.elim) ?aF ?aO ?aB ?aS ?aL ?_
         (case aP => exact k29_mkM _ _ _ (⟨t261,t262,t263⟩ : S29))
         (case aB => exact (by repeat (first|(with_reducible first|exact HB.out|apply below_alloc|apply pw_below_drewN|apply below_drew1|refine below_set ?_ GE251.out)|exact HB.out)))
         (case aF => exact (fun k_ hk => Kd.freshB (g:=gb251) (o:=.cells #[.int .i64 a1_0,.int .i64 a1_1,.int .i64 a1_2] 29 (0,0)) (blkU BK251.out) k_ hk))
         (case aO => exact (rU HO260.out))
         (case aS => exact (below_size (by repeat (first|(with_reducible first|exact HB.out|apply below_alloc|apply pw_below_drewN|apply below_drew1|refine below_set ?_ GE251.out)|exact HB.out))))
         (case aL => have:=LMc20.out;omega);intro v265 w27 ho hb hg hat
         rw [← Ny264.out] at ho;have n0_:=Aside0.mk (blk_grown (g:=gb251) (o:=.cells #[.int .i64 a1_0,.int .i64 a1_1,.int .i64 a1_2] 29 (0,0)) (blkU BK251.out) hg (Kd.R_away HO260.out (fun _ hk => hk)));have n1_:=Aside0.mk (hb);have n2_:=Aside0.mk (ho);clear BK251 HB HO260;have BK251:=n0_;have HB:=n1_;have HO266:=n2_;clear n0_ n1_ n2_ ho hb hg hat
         obtain ⟨Ao28,co28,eo28⟩:=Kd.R_slice HO266.out
         (first|subst eo28|(injection eo28 with f1_ f2_ f3_;have f4_:=f1_.symm;have f5_:=f3_.symm;clear f1_ f2_ f3_;subst f4_;subst f5_))
         refine hK.out _ _ ⟨(blk_cell BK251.out 0).trans rfl,(blk_cell BK251.out 1).trans rfl,(blk_cell BK251.out 2).trans rfl⟩ (fun hHeld => ?_);clear hK K
         refine norm_ (a':=?_) ?_ ?_;rotate_left
         ·
          show Act.put _ (some 35) _ = _
          simp only [Act.put,List.setIfInBounds_toArray,List.set_cons_zero,List.set_cons_succ,i64_w,i32_w]
          rfl
         refine one_ (i:=7) (N:=some 36) #[true,true,true,true,true,true,true,true,false,false,false,false,false] rfl rfl (one_of HT_.out (by kernel_rfl)) (by decide) (fun K hK => ?_)
         refine goes_ Try.func16 (by kernel_rfl) rfl #[.slice Ao28 y264.length co28] (by rfl) rfl rfl (by (try simp only [List.map_toArray,List.map_cons,List.map_nil]);first|done|rfl|(simp only [List.length_drop,List.length_take];rfl)) ?_
         with_reducible refine (spec_CountsFor.calls kj9 _ _ y264 t267 t268 _ ?side1 ?side2 A21.out).mono ?_
         (case side1 => exact cU (Kd.R_reads' HO266.out).2.2)
         (case side2 => exact (Kd.R_reads' HO266.out).2.1)
         rintro e w29 ⟨v269,rfl,ho0,hb⟩
         refine ⟨_,rfl,?_⟩;have n0_:=Aside0.mk (Kd.R_below (rU HO266.out) hb);have n1_:=Aside0.mk (Kd.R_lower ho0 (below_size (by repeat (first|(with_reducible first|exact HB.out|apply below_alloc|apply pw_below_drewN|apply below_drew1|refine below_set ?_ GE251.out)|exact HB.out))));have n2_:=Aside0.mk (blk_below (g:=gb251) (o:=.cells #[.int .i64 a1_0,.int .i64 a1_1,.int .i64 a1_2] 29 (0,0)) (blkU BK251.out) hb);have n3_:=Aside0.mk (below_step (by repeat (first|(with_reducible first|exact HB.out|apply below_alloc|apply pw_below_drewN|apply below_drew1|refine below_set ?_ GE251.out)|exact HB.out)) hb);clear HO266 BK251 HB;have HO266:=n0_;have HO270:=n1_;have BK251:=n2_;have HB:=n3_;clear n0_ n1_ n2_ n3_
         (try clear hb)
         (try clear hb2)
         (try clear hk)
         (try clear hi)
         (try clear ho0)
         refine hK.out _ _ ⟨(blk_cell BK251.out 0).trans rfl,(blk_cell BK251.out 1).trans rfl,(blk_cell BK251.out 2).trans rfl⟩ (fun hHeld => ?_);clear hK K
         refine norm_ (a':=?_) ?_ ?_;rotate_left
         ·
          show Act.put _ (some 36) _ = _
          simp only [Act.put,List.setIfInBounds_toArray,List.set_cons_zero,List.set_cons_succ,i64_w,i32_w]
          rfl
         refine pure_ (i:=8) (N:=some 28) (v:=?_) (a':=?_) #[true,true,true,true,true,true,true,true,true,false,false,false,false] rfl rfl (any_of HT_.out (by kernel_rfl)) (fun _ _ _ h => h) (Or.inl ⟨by rfl,?_⟩) ?_ ?_;rotate_left
         ·
          intro w'
          go_simp
          with_reducible rfl
         rotate_left
         ·
          simp only [Act.put,List.setIfInBounds_toArray,List.set_cons_zero,List.set_cons_succ,i64_w,i32_w]
          rfl
         refine pure_ (i:=9) (N:=some 37) (v:=?_) (a':=?_) #[true,true,true,true,true,true,true,true,true,true,false,false,false] rfl rfl (any_of HT_.out (by kernel_rfl)) (fun _ _ _ h => h) (Or.inl ⟨by rfl,?_⟩) ?_ ?_;rotate_left
         ·
          intro w'
          go_simp
          with_reducible rfl
         rotate_left
         ·
          simp only [Act.put,List.setIfInBounds_toArray,List.set_cons_zero,List.set_cons_succ,i64_w,i32_w]
          rfl
         refine pure_ (i:=10) (N:=some 38) (v:=?_) (a':=?_) #[true,true,true,true,true,true,true,true,true,true,true,false,false] rfl rfl (any_of HT_.out (by kernel_rfl)) (fun _ _ _ h => h) (Or.inl ⟨by rfl,?_⟩) ?_ ?_;rotate_left
         ·
          intro w'
          go_simp
          with_reducible rfl
         rotate_left
         ·
          simp only [Act.put,List.setIfInBounds_toArray,List.set_cons_zero,List.set_cons_succ,i64_w,i32_w]
          rfl
         refine pure_ (i:=11) (N:=some 6) (v:=?_) (a':=?_) #[true,true,true,true,true,true,true,true,true,true,true,true,false] rfl rfl (any_of HT_.out (by kernel_rfl)) (fun _ _ _ h => h) (Or.inl ⟨by rfl,?_⟩) ?_ ?_;rotate_left
         ·
          intro w'
          go_simp
          with_reducible rfl
         rotate_left
         ·
          simp only [Act.put,List.setIfInBounds_toArray,List.set_cons_zero,List.set_cons_succ,i64_w,i32_w]
          rfl
         refine pure_ (i:=12) (N:=some 7) (v:=?_) (a':=?_) #[true,true,true,true,true,true,true,true,true,true,true,true,true] rfl rfl (any_of HT_.out (by kernel_rfl)) (fun _ _ _ h => h) (Or.inl ⟨by rfl,?_⟩) ?_ ?_;rotate_left
         ·
          intro w'
          go_simp
          with_reducible rfl
         rotate_left
         ·
          simp only [Act.put,List.setIfInBounds_toArray,List.set_cons_zero,List.set_cons_succ,i64_w,i32_w]
          rfl
         refine done_ (done_of HT_.out (by kernel_rfl)) ?_
         try go_wp2
         go_ret
         exact ⟨by first|rfl|(simp [errW_none,errW_some] <;> rfl)|(simp [*,errW_none,errW_some] <;> rfl),by repeat (first|(with_reducible first|exact HB.out|apply below_alloc|apply pw_below_drewN|apply below_drew1|refine below_set ?_ GE251.out)|exact HB.out)⟩
        ·
         rw [if_neg c20] at H
         exact absurd H (by simp)
       ·
        rw [if_neg c18] at H
        exact absurd H (by simp)

end Go.Proofs.Ytmbninbecclbiaa.PA
