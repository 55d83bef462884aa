/- The machine side of functions of this seat, written by the session's program myprint.py: for each Go function a Lean function and the proof that the call answers just it. -/
import Derived.Test.YtmkfmbjemdbigaaPAx0
import Derived.Test.YtmkfmbjemdbigaaUp
import Derived.Test.YtmkfmbjemdbigaaPAx6
import Derived.Test.YtmkfmbjemdbigaaPAx23
import Derived.Test.YtmkfmbjemdbigaaPAx25
namespace Go.Proofs.Ytmkfmbjemdbigaa.PA
open Go.RowKit Go.Proofs.YtmkfmbjemdbigaaW.PrintWords Go.Proofs.YtmkfmbjemdbigaaW.PrintLast Go.Proofs.YtmkfmbjemdbigaaW.PrintMore
attribute [local go_sem] max2_int min2_int max_two min_two max_three min_three max_four min_four   -- for this text's walks alone
set_option linter.unusedVariables false
set_option linter.unusedSimpArgs false

/-! ### spec_WeighFollows: function 6 -/
mutual
def spec_WeighFollows.l0 : Nat → List (S25) → Int → Int → Int → Int → Option (Bool)
 | 0,_,_,_,_,_ => none
 | k + 1,x0,x5,x366000,x366001,x366002 => if x5 < (x0.length : Int) then (if 0 ≤ x5 then ((spec_WeighOk.f ((rd_T25 x0 x5).f0) ((rd_T25 x0 x5).f1) ((rd_T25 x0 x5).f2)).bind fun t367 => (if t367 = true then (spec_WeighFollows.l0 k x0 (wrap64 (x5 + 1)) x366000 x366001 x366002) else (some false))) else (none)) else ((spec_WeighOk.f x366000 x366001 x366002).bind fun t368 => (if t368 = true then (spec_WeighFollows.j1 k x0 (decide ((x0.length : Int) ≥ 6)) x366000 x366001 x366002) else (spec_WeighFollows.j1 k x0 true x366000 x366001 x366002)))
def spec_WeighFollows.j1 : Nat → List (S25) → Bool → Int → Int → Int → Option (Bool)
 | 0,_,_,_,_,_ => none
 | k + 1,x0,x27,x366000,x366001,x366002 => if x27 = true then (some false) else ((some (([] : List (S25)) : List (S25))).bind fun y369 => (if y369.length + x0.length < 5864062014805 then ((some (y369 ++ x0 : List (S25))).bind fun y372 => ((spec_ContraryOf.f k x366000 x366001 x366002).bind fun bt375 => (if y372.length < 5864062014805 then ((spec_CountsFor.f k (y372 ++ [(⟨bt375.1,bt375.2.1,bt375.2.2⟩ : S25)])).bind fun bt381 => (some (!bt381.2))) else (none)))) else (none)))
end
def spec_WeighFollows.f (k : Nat) (l0 : List (S25)) (a1_0 : Int) (a1_1 : Int) (a1_2 : Int) : Option (Bool):=spec_WeighFollows.l0 k l0 0 a1_0 a1_1 a1_2
theorem spec_WeighFollows.mono_l : ∀ k,(∀ y0 y1 y2 y3 y4,LeO (spec_WeighFollows.l0 k y0 y1 y2 y3 y4) (spec_WeighFollows.l0 (k + 1) y0 y1 y2 y3 y4)) ∧ (∀ y0 y1 y2 y3 y4,LeO (spec_WeighFollows.j1 k y0 y1 y2 y3 y4) (spec_WeighFollows.j1 (k + 1) y0 y1 y2 y3 y4))
 | 0 => ⟨fun _ _ _ _ _ r h => by simp [spec_WeighFollows.l0] at h,fun _ _ _ _ _ r h => by simp [spec_WeighFollows.j1] at h⟩
 | k + 1 => by
  obtain ⟨ih0,ih1⟩:=spec_WeighFollows.mono_l k;refine ⟨?_,?_⟩
  ·
   intro y0 y1 y2 y3 y4;unfold spec_WeighFollows.l0;repeat' first
   | (with_reducible exact ih0 _ _ _ _ _)
   | (with_reducible exact ih1 _ _ _ _ _)
   | (with_reducible exact LeO.refl _)
   | (with_reducible refine LeO.ite ?_ ?_)
   | (with_reducible refine LeO.bind ?_ (fun _ => ?_))
  ·
   intro y0 y1 y2 y3 y4;unfold spec_WeighFollows.j1;repeat' first
   | (with_reducible exact spec_ContraryOf.mono _ _ _ _)
   | (with_reducible exact spec_CountsFor.mono _ _)
   | (with_reducible exact LeO.refl _)
   | (with_reducible refine LeO.ite ?_ ?_)
   | (with_reducible refine LeO.bind ?_ (fun _ => ?_))
theorem spec_WeighFollows.mono : ∀ a0 a1 a2 a3 k,LeO (spec_WeighFollows.f k a0 a1 a2 a3) (spec_WeighFollows.f (k + 1) a0 a1 a2 a3):=by
 intro a0 a1 a2 a3 k;obtain ⟨ih0,ih1⟩:=spec_WeighFollows.mono_l k;unfold spec_WeighFollows.f;repeat' first
   | (with_reducible exact ih0 _ _ _ _ _)
def spec_WeighFollows.T8 : Bool × List (List Nat × List Nat):=(true,[([],[]),([],[]),([0,1],[0,1]),([],[]),([3,2],[3]),([4],[4]),([2,5,4],[2,5]),([6,6],[6]),([7],[7]),([8],[8]),([8],[8]),([9,7,0,1,2,3,4,5,6,7,8,9],[9]),([10,11,0,1,2,3,4,5,6,7,8,9,10,11],[10])])
def spec_WeighFollows.B8 : List Nat:=[0,0,3,0,15,31,63,127,255,511,511,1023,4095]
theorem spec_WeighFollows.tab8 : rtab .any (opsOf Try.f6 8) = spec_WeighFollows.T8:=by kernel_rfl
theorem spec_WeighFollows.bits8 : waitsOk spec_WeighFollows.T8.2 spec_WeighFollows.B8 = true:=by kernel_rfl
set_option maxHeartbeats 8000000 in
set_option maxRecDepth 100000 in
theorem spec_WeighFollows.calls (k : Nat) (A0 : Option Addr) (c0 : Nat) (l0 : List (S25)) (a1_0 : Int) (a1_1 : Int) (a1_2 : Int) (r : Bool) (w : World) (hr0 : Kd.C k25 w A0 l0.length l0) (hc0 : l0.length ≤ c0) (h : spec_WeighFollows.f k l0 a1_0 a1_1 a1_2 = some r) :
  Calls Try.prog 6 #[.slice A0 l0.length c0,.agg #[.int .i64 a1_0,.int .i64 a1_1,.int .i64 a1_2]] w fun e w' => e = .returned (.bool r) ∧ Below w.heap.size w w':=by
 have hu25:=Try.underlying25;have HR0:=Aside0.mk hr0;have HC0:=Aside0.mk hc0;clear hr0 hc0;have HB:=Aside0.mk (Below.refl w.heap.size w);have H : (spec_WeighFollows.l0 k l0 0 a1_0 a1_1 a1_2) = some r:=h;clear h;have H':=Aside0.mk H;clear H;go_enter Try.func6,Try.ntmps6;go_wp2_with (((with_reducible refine gate_dst (N:=3) rfl ?_);(try (refine gate_guard (by rfl) ?_;dsimp only));refine box_event ?hg (N:=3) ?hd (cs:=#[.int .i64 a1_0,.int .i64 a1_1,.int .i64 a1_2]) (t:=25) ?hr ?_;(case hd => rfl);(case hg => rfl);(case hr => go_simp;done);intro gb365 hg w3 hbox hb;have BK365:=Aside0.mk (hbox);have GW365:=Aside0.mk ((by rw [hg];exact (below_size (belU HB.out)) : w.heap.size ≤ gb365));have GE365:=Aside0.mk ((by rw [hg];exact (below_size (belU HB.out)) : w.heap.size ≤ gb365));replace HB:=Aside0.mk (below_step (belU HB.out) hb);clear hb hbox hg))
 go_loopg [5] k (fun kq v5 w' => ∃ (x5_1 : Int),v5 = .int .i64 x5_1 ∧ Aside0 (spec_WeighFollows.l0 kq l0 x5_1 a1_0 a1_1 a1_2 = some r) ∧ Aside0 (kq ≤ k) ∧ Aside0 (w'.heap[gb365]? = some (.cells #[.int .i64 a1_0,.int .i64 a1_1,.int .i64 a1_2] 25 (0,0))) ∧ Aside0 (Below w.heap.size w w'));case atStart => exact ⟨(0),(by rfl),H',⟨Nat.le_refl _⟩,⟨blkU BK365.out⟩,⟨HB.out⟩⟩
 case round =>
  clear H';obtain ⟨x5_1,rfl,HA,HK1,BK365,HB⟩:=hrel;cases gk with
  | zero => exact absurd HA.out (by simp [spec_WeighFollows.l0])
  | succ k1 =>
   have H:=HA.out;clear HA;simp only [spec_WeighFollows.l0] at H;by_cases c4 : x5_1 < (l0.length : Int)
   ·
    rw [if_pos c4] at H;have c4b0 : decide (x5_1 < (l0.length : Int)) = true:=decide_eq_true c4;clear c4;by_cases c5 : 0 ≤ x5_1
    ·
     rw [if_pos c5] at H;have c5b0 : decide (0 ≤ x5_1) = true:=decide_eq_true c5;clear c5;replace H:=Option.bind_eq_some_iff.mp H;obtain ⟨t367,A60,H⟩:=H;have A6:=Aside0.mk A60;clear A60;by_cases c7 : t367 = true
     ·
      subst c7;have H1 : (spec_WeighFollows.l0 k1 l0 (wrap64 (x5_1 + 1)) a1_0 a1_1 a1_2) = some r:=by rw [if_pos rfl] at H;exact H
      clear H;have H:=H1;clear H1;have H':=Aside0.mk H;clear H;have p366 : 0 ≤ (x5_1 : Int):=of_decide_eq_true (by (with_reducible assumption));have q366 : x5_1 < (l0.length : Int):=of_decide_eq_true (by (with_reducible assumption));obtain ⟨ad366,e366,hx366_0,hx366_1,hx366_2⟩:=at_T25 HR0.out x5_1 p366 q366;cases e366;replace hx366_0:=(HB.out.cell (World.block_lt_of_cell? w _ hx366_0)).trans hx366_0;replace hx366_1:=(HB.out.cell (World.block_lt_of_cell? w _ hx366_1)).trans hx366_1;replace hx366_2:=(HB.out.cell (World.block_lt_of_cell? w _ hx366_2)).trans hx366_2;replace p366:=eq_true p366;replace q366:=eq_true q366;go_wp2_with (((with_reducible refine gate_callee (f:=9) rfl ?_);refine goesL_ (some 18) rfl rfl Try.func9 (by kernel_rfl) rfl #[.agg #[.int .i64 ((rd_T25 l0 x5_1).f0),.int .i64 ((rd_T25 l0 x5_1).f1),.int .i64 ((rd_T25 l0 x5_1).f2)]] rfl (by (try simp only [List.map_toArray,List.map_cons,List.map_nil]);rfl) ?_;(with_reducible refine (spec_WeighOk.calls ((rd_T25 l0 x5_1).f0) ((rd_T25 l0 x5_1).f1) ((rd_T25 l0 x5_1).f2) true _ A6.out).mono ?_);rintro e w8 ⟨rfl,hb⟩;refine ⟨_,rfl,?_⟩;replace BK365:=Aside0.mk (blk_below (g:=gb365) (o:=.cells #[.int .i64 a1_0,.int .i64 a1_1,.int .i64 a1_2] 25 (0,0)) (blkU BK365.out) hb);replace HB:=Aside0.mk (below_step HB.out hb);(try clear hb)))
      go_roundg k1;case measure => have:=HK1.out;omega
      case rel => exact ⟨(wrap64 (x5_1 + 1)),(by rfl),H',⟨by have:=HK1.out;omega⟩,⟨blkU BK365.out⟩,⟨HB.out⟩⟩
     ·
      replace c7:=Bool.eq_false_iff.mpr c7;subst c7;have H1 : (some false) = some r:=by rw [if_neg (show ¬ (false = true) by decide)] at H;exact H
      clear H;have H:=H1;clear H1;obtain rfl:=Option.some.inj H;have p366 : 0 ≤ (x5_1 : Int):=of_decide_eq_true (by (with_reducible assumption));have q366 : x5_1 < (l0.length : Int):=of_decide_eq_true (by (with_reducible assumption));obtain ⟨ad366,e366,hx366_0,hx366_1,hx366_2⟩:=at_T25 HR0.out x5_1 p366 q366;cases e366;replace hx366_0:=(HB.out.cell (World.block_lt_of_cell? w _ hx366_0)).trans hx366_0;replace hx366_1:=(HB.out.cell (World.block_lt_of_cell? w _ hx366_1)).trans hx366_1;replace hx366_2:=(HB.out.cell (World.block_lt_of_cell? w _ hx366_2)).trans hx366_2;replace p366:=eq_true p366;replace q366:=eq_true q366;go_wp2_with (((with_reducible refine gate_callee (f:=9) rfl ?_);refine goesL_ (some 18) rfl rfl Try.func9 (by kernel_rfl) rfl #[.agg #[.int .i64 ((rd_T25 l0 x5_1).f0),.int .i64 ((rd_T25 l0 x5_1).f1),.int .i64 ((rd_T25 l0 x5_1).f2)]] rfl (by (try simp only [List.map_toArray,List.map_cons,List.map_nil]);rfl) ?_;(with_reducible refine (spec_WeighOk.calls ((rd_T25 l0 x5_1).f0) ((rd_T25 l0 x5_1).f1) ((rd_T25 l0 x5_1).f2) false _ A6.out).mono ?_);rintro e w9 ⟨rfl,hb⟩;refine ⟨_,rfl,?_⟩;replace BK365:=Aside0.mk (blk_below (g:=gb365) (o:=.cells #[.int .i64 a1_0,.int .i64 a1_1,.int .i64 a1_2] 25 (0,0)) (blkU BK365.out) hb);replace HB:=Aside0.mk (below_step HB.out hb);(try clear hb)))
      go_ret;exact ⟨by rfl,HB.out⟩
    ·
     rw [if_neg c5] at H;exact absurd H (by simp)
   ·
    rw [if_neg c4] at H;have c4b0 : decide (x5_1 < (l0.length : Int)) = false:=decide_eq_false c4;clear c4;have HC10:=Aside0.mk H;clear H;go_upto_region 6 with (fail)
    go_cut [27] (fun v27 wc => ∃ (kq : Nat) (x27_9 : Bool),v27 = .bool x27_9 ∧ Aside0 (spec_WeighFollows.j1 kq l0 x27_9 a1_0 a1_1 a1_2 = some r) ∧ Aside0 (kq ≤ k1) ∧ Aside0 (wc.heap[gb365]? = some (.cells #[.int .i64 a1_0,.int .i64 a1_1,.int .i64 a1_2] 25 (0,0))) ∧ Aside0 (Below w.heap.size w wc));case first =>
     have H:=HC10.out;clear HC10;replace H:=Option.bind_eq_some_iff.mp H;obtain ⟨t368,A110,H⟩:=H;have A11:=Aside0.mk A110;clear A110;by_cases c12 : t368 = true
     ·
      subst c12;have H1 : (spec_WeighFollows.j1 k1 l0 (decide ((l0.length : Int) ≥ 6)) a1_0 a1_1 a1_2) = some r:=by rw [if_pos rfl] at H;exact H
      clear H;have H:=H1;clear H1;have H':=Aside0.mk H;clear H;have hcz13_0 : wr.cell? ⟨gb365,0,none⟩ = some (.int .i64 a1_0):=(blk_cell BK365.out 0).trans rfl;have hcz13_1 : wr.cell? ⟨gb365,1,none⟩ = some (.int .i64 a1_1):=(blk_cell BK365.out 1).trans rfl;have hcz13_2 : wr.cell? ⟨gb365,2,none⟩ = some (.int .i64 a1_2):=(blk_cell BK365.out 2).trans rfl;have hfz13_0:=blk_frozen BK365.out 0;have hfz13_1:=blk_frozen BK365.out 1;have hfz13_2:=blk_frozen BK365.out 2;go_wp2_with (((with_reducible refine gate_callee (f:=9) rfl ?_);refine goesL_ (some 21) rfl rfl Try.func9 (by kernel_rfl) rfl #[.agg #[.int .i64 a1_0,.int .i64 a1_1,.int .i64 a1_2]] rfl (by (try simp only [List.map_toArray,List.map_cons,List.map_nil]);rfl) ?_;(with_reducible refine (spec_WeighOk.calls a1_0 a1_1 a1_2 true _ A11.out).mono ?_);rintro e w14 ⟨rfl,hb⟩;refine ⟨_,rfl,?_⟩;replace BK365:=Aside0.mk (blk_below (g:=gb365) (o:=.cells #[.int .i64 a1_0,.int .i64 a1_1,.int .i64 a1_2] 25 (0,0)) (blkU BK365.out) hb);replace HB:=Aside0.mk (below_step HB.out hb);(try clear hb)))
      go_meet;case rel => exact ⟨_,(decide ((l0.length : Int) ≥ 6)),(by rfl),H',⟨by have:=HK1.out;omega⟩,⟨blkU BK365.out⟩,⟨HB.out⟩⟩
     ·
      replace c12:=Bool.eq_false_iff.mpr c12;subst c12;have H1 : (spec_WeighFollows.j1 k1 l0 true a1_0 a1_1 a1_2) = some r:=by rw [if_neg (show ¬ (false = true) by decide)] at H;exact H
      clear H;have H:=H1;clear H1;have H':=Aside0.mk H;clear H;have hcz15_0 : wr.cell? ⟨gb365,0,none⟩ = some (.int .i64 a1_0):=(blk_cell BK365.out 0).trans rfl;have hcz15_1 : wr.cell? ⟨gb365,1,none⟩ = some (.int .i64 a1_1):=(blk_cell BK365.out 1).trans rfl;have hcz15_2 : wr.cell? ⟨gb365,2,none⟩ = some (.int .i64 a1_2):=(blk_cell BK365.out 2).trans rfl;have hfz15_0:=blk_frozen BK365.out 0;have hfz15_1:=blk_frozen BK365.out 1;have hfz15_2:=blk_frozen BK365.out 2;go_wp2_with (((with_reducible refine gate_callee (f:=9) rfl ?_);refine goesL_ (some 21) rfl rfl Try.func9 (by kernel_rfl) rfl #[.agg #[.int .i64 a1_0,.int .i64 a1_1,.int .i64 a1_2]] rfl (by (try simp only [List.map_toArray,List.map_cons,List.map_nil]);rfl) ?_;(with_reducible refine (spec_WeighOk.calls a1_0 a1_1 a1_2 false _ A11.out).mono ?_);rintro e w16 ⟨rfl,hb⟩;refine ⟨_,rfl,?_⟩;replace BK365:=Aside0.mk (blk_below (g:=gb365) (o:=.cells #[.int .i64 a1_0,.int .i64 a1_1,.int .i64 a1_2] 25 (0,0)) (blkU BK365.out) hb);replace HB:=Aside0.mk (below_step HB.out hb);(try clear hb)))
      go_meet;case rel => exact ⟨_,(true),(by rfl),H',⟨by have:=HK1.out;omega⟩,⟨blkU BK365.out⟩,⟨HB.out⟩⟩
    case rest =>
     clear HC10 c4b0;obtain ⟨kq,x27_9,rfl,HA,HJ9,BK365,HB⟩:=hcut;cases kq with
     | zero => exact absurd HA.out (by simp [spec_WeighFollows.j1])
     | succ kj9 =>
      have H:=HA.out;clear HA;simp only [spec_WeighFollows.j1] at H;by_cases c17 : x27_9 = true
      ·
       subst c17;have H1 : (some false) = some r:=by rw [if_pos rfl] at H;exact H
       clear H;have H:=H1;clear H1;obtain rfl:=Option.some.inj H;go_wp2;go_ret;exact ⟨by rfl,HB.out⟩
      ·
       replace c17:=Bool.eq_false_iff.mpr c17;subst c17;have H1 : ((some (([] : List (S25)) : List (S25))).bind fun y369 => (if y369.length + l0.length < 5864062014805 then ((some (y369 ++ l0 : List (S25))).bind fun y372 => ((spec_ContraryOf.f kj9 a1_0 a1_1 a1_2).bind fun bt375 => (if y372.length < 5864062014805 then ((spec_CountsFor.f kj9 (y372 ++ [(⟨bt375.1,bt375.2.1,bt375.2.2⟩ : S25)])).bind fun bt381 => (some (!bt381.2))) else (none)))) else (none))) = some r:=by rw [if_neg (show ¬ (false = true) by decide)] at H;exact H
       clear H;have H:=H1;clear H1;obtain ⟨y369,hy369⟩ : ∃ y_ : List (S25),y_ = (([] : List (S25))):=⟨_,rfl⟩
       replace H : (if y369.length + l0.length < 5864062014805 then ((some (y369 ++ l0 : List (S25))).bind fun y372 => ((spec_ContraryOf.f kj9 a1_0 a1_1 a1_2).bind fun bt375 => (if y372.length < 5864062014805 then ((spec_CountsFor.f kj9 (y372 ++ [(⟨bt375.1,bt375.2.1,bt375.2.2⟩ : S25)])).bind fun bt381 => (some (!bt381.2))) else (none)))) else (none)) = some r:=by (have H2_:=(Option.bind_some _ _).symm.trans H;rw [hy369];with_reducible exact H2_)
       have Ny369:=Aside0.mk hy369;clear hy369;by_cases c18 : y369.length + l0.length < 5864062014805
       ·
        rw [if_pos c18] at H;have LMc18:=Aside0.mk c18;clear c18;obtain ⟨y372,hy372⟩ : ∃ y_ : List (S25),y_ = (y369 ++ l0):=⟨_,rfl⟩
        replace H : ((spec_ContraryOf.f kj9 a1_0 a1_1 a1_2).bind fun bt375 => (if y372.length < 5864062014805 then ((spec_CountsFor.f kj9 (y372 ++ [(⟨bt375.1,bt375.2.1,bt375.2.2⟩ : S25)])).bind fun bt381 => (some (!bt381.2))) else (none))) = some r:=by (have H2_:=(Option.bind_some _ _).symm.trans H;rw [hy372];with_reducible exact H2_)
        have Ny372:=Aside0.mk hy372;clear hy372;replace H:=Option.bind_eq_some_iff.mp H;obtain ⟨⟨t375,t376,t377⟩,A190,H⟩:=H;have A19:=Aside0.mk A190;clear A190;by_cases c20 : y372.length < 5864062014805
        ·
         rw [if_pos c20] at H;have LMc20:=Aside0.mk c20;clear c20;obtain ⟨y378,hy378⟩ : ∃ y_ : List (S25),y_ = (y372 ++ [(⟨t375,t376,t377⟩ : S25)]):=⟨_,rfl⟩
         replace H : ((spec_CountsFor.f kj9 y378).bind fun bt381 => (some (!bt381.2))) = some r:=by (rw [hy378];with_reducible exact H)
         have Ny378:=Aside0.mk hy378;clear hy378;replace H:=Option.bind_eq_some_iff.mp H;obtain ⟨⟨t381,t382⟩,A210,H⟩:=H;have A21:=Aside0.mk A210;clear A210;obtain rfl:=Option.some.inj H;try go_wp2
         replace BK365:=Aside0.mk (blk_drew BK365.out);replace HB:=Aside0.mk (below_drew1 HB.out);refine start_ (n:=13) (S:=fun w' => w'.cell? ⟨gb365,0,none⟩ = some (.int .i64 a1_0) ∧ w'.cell? ⟨gb365,1,none⟩ = some (.int .i64 a1_1) ∧ w'.cell? ⟨gb365,2,none⟩ = some (.int .i64 a1_2)) (ds:=[]) #[false,false,false,false,false,false,false,false,false,false,false,false,false] (by kernel_rfl) rfl rfl ⟨(blk_cell BK365.out 0).trans rfl,(blk_cell BK365.out 1).trans rfl,(blk_cell BK365.out 2).trans rfl⟩ (fun hHeld => ?_);refine with_tabW spec_WeighFollows.tab8 spec_WeighFollows.bits8 (fun HT_ HW_ => ?_);generalize wc.drew = w22 at BK365 HB hHeld ⊢;refine pure_ (i:=1) (N:=some 30) (v:=?_) (a':=?_) #[false,true,false,false,false,false,false,false,false,false,false,false,false] rfl rfl (any_of HT_.out (by kernel_rfl)) (fun _ _ _ h => h) (Or.inl ⟨by rfl,?_⟩) ?_ ?_;rotate_left
         ·
          intro w';go_simp
          with_reducible rfl
         rotate_left
         ·
          simp only [Act.put,List.setIfInBounds_toArray,List.set_cons_zero,List.set_cons_succ,i64_w,i32_w];rfl
         refine take_ (i:=3) (N:=some 32) (v:=?_) (a':=?_) #[false,true,false,true,false,false,false,false,false,false,false,false,false] rfl rfl (take_ofW HT_.out HW_.out (by kernel_rfl)) (fun _ _ _ h => h) (Or.inl ⟨by rfl,?_⟩) hHeld ?_ ?_;rotate_left
         ·
          rintro w' ⟨s0,s1,s2⟩;go_simp
          with_reducible rfl
         rotate_left
         ·
          simp only [Act.put,List.setIfInBounds_toArray,List.set_cons_zero,List.set_cons_succ,i64_w,i32_w];rfl
         refine one_ (i:=0) (N:=some 29) #[true,true,false,true,false,false,false,false,false,false,false,false,false] rfl rfl (one_of HT_.out (by kernel_rfl)) (by decide) (fun K hK => ?_);refine Kd.R_lit_step k25 _ 25 ?hg (N:=29) ?hd (xs:=([] : List (S25))) (inner:=[]) (ok:=fun _ => True) (okp:=fun _ => True) ?hr ?hp (fun _ hk => hk) trivial (Below.refl _ _) (Nat.le_refl _) (by simp) ?_;(case hd => rfl);(case hg => rfl);(case hr => go_simp;done);(case hp => exact (Reps.none _ _));intro v370 w23 ho24 hb hg_ hnew_;clear hg_ hnew_;(rw [← Ny369.out] at ho24);have HO371:=Aside0.mk (Kd.R_lower (Kd.R_newB ho24 (g:=gb365) (o:=.cells #[.int .i64 a1_0,.int .i64 a1_1,.int .i64 a1_2] 25 (0,0)) (blkU BK365.out)) (below_size HB.out));replace BK365:=Aside0.mk (blk_below (g:=gb365) (o:=.cells #[.int .i64 a1_0,.int .i64 a1_1,.int .i64 a1_2] 25 (0,0)) (blkU BK365.out) hb);replace HB:=Aside0.mk (below_step HB.out hb);clear hb ho24;refine hK.out _ _ ⟨(blk_cell BK365.out 0).trans rfl,(blk_cell BK365.out 1).trans rfl,(blk_cell BK365.out 2).trans rfl⟩ (fun hHeld => ?_);clear hK K;refine norm_ (a':=?_) ?_ ?_;rotate_left
         ·
          show Act.put _ (some 29) _ = _;simp only [Act.put,List.setIfInBounds_toArray,List.set_cons_zero,List.set_cons_succ,i64_w,i32_w];rfl
         refine one_ (i:=2) (N:=some 31) #[true,true,true,true,false,false,false,false,false,false,false,false,false] rfl rfl (one_of HT_.out (by kernel_rfl)) (by decide) (fun K hK => ?_);refine Kd.R_append_rows_step k25 (w0:=w) w.heap.size (by rfl) (.tmp 29) (.tmp 30) 23 25 (.agg #[(.int .i64 0),(.int .i64 0),(.int .i64 0)]) 24 rfl Try.underlying23 info25 rfl (by decide) (by omega) v370 y369 l0 _ _ _ (fun k_ => k_ ≠ gb365) (fun _ => False) rfl rfl ?aO ?aR (fun _ _ h => h) (fun _ h => h.elim) ?aF ?aB ?aS ?aL ?_;(case aR => exact cU (Kd.C_below HR0.out HB.out));(case aB => exact HB.out);(case aF => exact (fun k_ hk => Kd.freshB (g:=gb365) (o:=.cells #[.int .i64 a1_0,.int .i64 a1_1,.int .i64 a1_2] 25 (0,0)) (blkU BK365.out) k_ hk));(case aO => exact (by exact Kd.R_mono HO371.out (fun _ hk => hk.2)));(case aS => exact (below_size HB.out));(case aL => have:=LMc18.out;omega);intro v373 w25 ho hb hg hat;rw [← Ny372.out] at ho;replace BK365:=Aside0.mk (blk_grown (g:=gb365) (o:=.cells #[.int .i64 a1_0,.int .i64 a1_1,.int .i64 a1_2] 25 (0,0)) (blkU BK365.out) hg (Kd.R_away HO371.out (fun _ hk => hk.2)));replace HB:=Aside0.mk (hb);have HO374:=Aside0.mk (ho);clear HO371 ho hb hg hat;refine hK.out _ _ ⟨(blk_cell BK365.out 0).trans rfl,(blk_cell BK365.out 1).trans rfl,(blk_cell BK365.out 2).trans rfl⟩ (fun hHeld => ?_);clear hK K;refine norm_ (a':=?_) ?_ ?_;rotate_left
         ·
          show Act.put _ (some 31) _ = _;simp only [Act.put,List.setIfInBounds_toArray,List.set_cons_zero,List.set_cons_succ,i64_w,i32_w];rfl
         refine one_ (i:=4) (N:=some 33) #[true,true,true,true,true,false,false,false,false,false,false,false,false] rfl rfl (one_of HT_.out (by kernel_rfl)) (by decide) (fun K hK => ?_);refine goes_ Try.func21 (by kernel_rfl) rfl #[.agg #[.int .i64 a1_0,.int .i64 a1_1,.int .i64 a1_2]] (by rfl) rfl rfl (by (try simp only [List.map_toArray,List.map_cons,List.map_nil]);rfl) ?_
         with_reducible refine (spec_ContraryOf.calls kj9 a1_0 a1_1 a1_2 t375 t376 t377 _ A19.out).mono ?_
         rintro e w26 ⟨rfl,hb⟩;refine ⟨_,rfl,?_⟩;replace HO374:=Aside0.mk (Kd.R_below (rU HO374.out) hb);replace BK365:=Aside0.mk (blk_below (g:=gb365) (o:=.cells #[.int .i64 a1_0,.int .i64 a1_1,.int .i64 a1_2] 25 (0,0)) (blkU BK365.out) hb);replace HB:=Aside0.mk (below_step HB.out hb);(try clear hb);refine hK.out _ _ ⟨(blk_cell BK365.out 0).trans rfl,(blk_cell BK365.out 1).trans rfl,(blk_cell BK365.out 2).trans rfl⟩ (fun hHeld => ?_);clear hK K;refine norm_ (a':=?_) ?_ ?_;rotate_left
         ·
          show Act.put _ (some 33) _ = _;simp only [Act.put,List.setIfInBounds_toArray,List.set_cons_zero,List.set_cons_succ,i64_w,i32_w];rfl
         refine one_ (i:=5) (N:=some 34) #[true,true,true,true,true,true,false,false,false,false,false,false,false] rfl rfl (one_of HT_.out (by kernel_rfl)) (by decide) (fun K hK => ?_);refine value_ (w1:=?_) (v:=?_) (by rfl) rfl ?_ ?_;rotate_left 2
         ·
          go_simp;constructor
          ·
           rfl
          ·
           rfl
         refine hK.out _ _ ⟨(blk_cell (blk_alloc BK365.out _) 0).trans rfl,(blk_cell (blk_alloc BK365.out _) 1).trans rfl,(blk_cell (blk_alloc BK365.out _) 2).trans rfl⟩ (fun hHeld => ?_);clear hK K;refine norm_ (a':=?_) ?_ ?_;rotate_left
         ·
          show Act.put _ (some 34) _ = _;simp only [Act.put,List.setIfInBounds_toArray,List.set_cons_zero,List.set_cons_succ,i64_w,i32_w];rfl
         refine one_ (i:=6) (N:=some 35) #[true,true,true,true,true,true,true,false,false,false,false,false,false] rfl rfl (one_of HT_.out (by kernel_rfl)) (by decide) (fun K hK => ?_);refine Kd.R_append_step k25 (w0:=w) w.heap.size (by rfl) (.tmp 31) (.tmp 34) 23 25 (.agg #[(.int .i64 0),(.int .i64 0),(.int .i64 0)]) 24 rfl Try.underlying23 info25 rfl (by decide) (by omega) v373 y372 (⟨t375,t376,t377⟩ : S25) [.int .i64 t375,.int .i64 t376,.int .i64 t377] (fun k_ => k_ ≠ gb365) (fun _ => False) rfl rfl ?aP (fun _ hk => hk.elim) ?aF ?aO ?aB ?aS ?aL ?_;(case aP => exact k25_mkM _ _ _ (⟨t375,t376,t377⟩ : S25));(case aB => exact HB.out);(case aF => exact (fun k_ hk => Kd.freshB (g:=gb365) (o:=.cells #[.int .i64 a1_0,.int .i64 a1_1,.int .i64 a1_2] 25 (0,0)) (blkU BK365.out) k_ hk));(case aO => exact (rU HO374.out));(case aS => exact (below_size HB.out));(case aL => have:=LMc20.out;omega);intro v379 w27 ho hb hg hat;rw [← Ny378.out] at ho;replace BK365:=Aside0.mk (blk_grown (g:=gb365) (o:=.cells #[.int .i64 a1_0,.int .i64 a1_1,.int .i64 a1_2] 25 (0,0)) (blkU BK365.out) hg (Kd.R_away HO374.out (fun _ hk => hk)));replace HB:=Aside0.mk (hb);have HO380:=Aside0.mk (ho);clear HO374 ho hb hg hat;obtain ⟨Ao28,co28,eo28⟩:=Kd.R_slice HO380.out;(subst eo28);refine hK.out _ _ ⟨(blk_cell BK365.out 0).trans rfl,(blk_cell BK365.out 1).trans rfl,(blk_cell BK365.out 2).trans rfl⟩ (fun hHeld => ?_);clear hK K;refine norm_ (a':=?_) ?_ ?_;rotate_left
         ·
          show Act.put _ (some 35) _ = _;simp only [Act.put,List.setIfInBounds_toArray,List.set_cons_zero,List.set_cons_succ,i64_w,i32_w];rfl
         refine one_ (i:=7) (N:=some 36) #[true,true,true,true,true,true,true,true,false,false,false,false,false] rfl rfl (one_of HT_.out (by kernel_rfl)) (by decide) (fun K hK => ?_);refine goes_ Try.func20 (by kernel_rfl) rfl #[.slice Ao28 y378.length co28] (by rfl) rfl rfl (by (try simp only [List.map_toArray,List.map_cons,List.map_nil]);rfl) ?_
         with_reducible refine (spec_CountsFor.calls kj9 _ _ y378 t381 t382 _ ?side1 ?side2 A21.out).mono ?_
         (case side1 => exact cU (Kd.R_reads' HO380.out).2.2);(case side2 => exact (Kd.R_reads' HO380.out).2.1);rintro e w29 ⟨v383,rfl,ho0,hb⟩;refine ⟨_,rfl,?_⟩;replace HO380:=Aside0.mk (Kd.R_below (rU HO380.out) hb);have HO384:=Aside0.mk (Kd.R_lower ho0 (below_size HB.out));replace BK365:=Aside0.mk (blk_below (g:=gb365) (o:=.cells #[.int .i64 a1_0,.int .i64 a1_1,.int .i64 a1_2] 25 (0,0)) (blkU BK365.out) hb);replace HB:=Aside0.mk (below_step HB.out hb);(try clear hb);(try clear ho0);refine hK.out _ _ ⟨(blk_cell BK365.out 0).trans rfl,(blk_cell BK365.out 1).trans rfl,(blk_cell BK365.out 2).trans rfl⟩ (fun hHeld => ?_);clear hK K;refine norm_ (a':=?_) ?_ ?_;rotate_left
         ·
          show Act.put _ (some 36) _ = _;simp only [Act.put,List.setIfInBounds_toArray,List.set_cons_zero,List.set_cons_succ,i64_w,i32_w];rfl
         refine pure_ (i:=8) (N:=some 28) (v:=?_) (a':=?_) #[true,true,true,true,true,true,true,true,true,false,false,false,false] rfl rfl (any_of HT_.out (by kernel_rfl)) (fun _ _ _ h => h) (Or.inl ⟨by rfl,?_⟩) ?_ ?_;rotate_left
         ·
          intro w';go_simp
          with_reducible rfl
         rotate_left
         ·
          simp only [Act.put,List.setIfInBounds_toArray,List.set_cons_zero,List.set_cons_succ,i64_w,i32_w];rfl
         refine pure_ (i:=9) (N:=some 37) (v:=?_) (a':=?_) #[true,true,true,true,true,true,true,true,true,true,false,false,false] rfl rfl (any_of HT_.out (by kernel_rfl)) (fun _ _ _ h => h) (Or.inl ⟨by rfl,?_⟩) ?_ ?_;rotate_left
         ·
          intro w';go_simp
          with_reducible rfl
         rotate_left
         ·
          simp only [Act.put,List.setIfInBounds_toArray,List.set_cons_zero,List.set_cons_succ,i64_w,i32_w];rfl
         refine pure_ (i:=10) (N:=some 38) (v:=?_) (a':=?_) #[true,true,true,true,true,true,true,true,true,true,true,false,false] rfl rfl (any_of HT_.out (by kernel_rfl)) (fun _ _ _ h => h) (Or.inl ⟨by rfl,?_⟩) ?_ ?_;rotate_left
         ·
          intro w';go_simp
          with_reducible rfl
         rotate_left
         ·
          simp only [Act.put,List.setIfInBounds_toArray,List.set_cons_zero,List.set_cons_succ,i64_w,i32_w];rfl
         refine pure_ (i:=11) (N:=some 6) (v:=?_) (a':=?_) #[true,true,true,true,true,true,true,true,true,true,true,true,false] rfl rfl (any_of HT_.out (by kernel_rfl)) (fun _ _ _ h => h) (Or.inl ⟨by rfl,?_⟩) ?_ ?_;rotate_left
         ·
          intro w';go_simp
          with_reducible rfl
         rotate_left
         ·
          simp only [Act.put,List.setIfInBounds_toArray,List.set_cons_zero,List.set_cons_succ,i64_w,i32_w];rfl
         refine pure_ (i:=12) (N:=some 7) (v:=?_) (a':=?_) #[true,true,true,true,true,true,true,true,true,true,true,true,true] rfl rfl (any_of HT_.out (by kernel_rfl)) (fun _ _ _ h => h) (Or.inl ⟨by rfl,?_⟩) ?_ ?_;rotate_left
         ·
          intro w';go_simp
          with_reducible rfl
         rotate_left
         ·
          simp only [Act.put,List.setIfInBounds_toArray,List.set_cons_zero,List.set_cons_succ,i64_w,i32_w];rfl
         refine done_ (done_of HT_.out (by kernel_rfl)) ?_;try go_wp2
         go_ret;exact ⟨by rfl,HB.out⟩
        ·
         rw [if_neg c20] at H;exact absurd H (by simp)
       ·
        rw [if_neg c18] at H;exact absurd H (by simp)

end Go.Proofs.Ytmkfmbjemdbigaa.PA
