/- The machine side of functions of this seat, written by the session's program myprint.py: for each Go function a Lean function and the proof that the call answers just it. -/
import Derived.Test.YtmkfmbjemdbigaaPAx0
import Derived.Test.YtmkfmbjemdbigaaUp
import Derived.Test.YtmkfmbjemdbigaaPAx10
namespace Go.Proofs.Ytmkfmbjemdbigaa.PA
open Go.RowKit Go.Proofs.YtmkfmbjemdbigaaW.PrintWords Go.Proofs.YtmkfmbjemdbigaaW.PrintLast Go.Proofs.YtmkfmbjemdbigaaW.PrintMore
attribute [local go_sem] max2_int min2_int max_two min_two max_three min_three max_four min_four   -- for this text's walks alone
set_option linter.unusedVariables false
set_option linter.unusedSimpArgs false

/-! ### spec_l6Row: function 48 -/
mutual
def spec_l6Row.l0 : Nat → List Int → Int → Int → Int → Int → Option (List Int × Bool)
 | 0,_,_,_,_,_ => none
 | k + 1,x4,x5,x192000,x192001,x192002 => if x5 < 4 then ((spec_l5Is.f x5 x192001).bind fun t195 => (if t195 = true then (spec_l6Row.j1 k x4 x5 1 0 x192000 x192001 x192002) else (spec_l6Row.j1 k x4 x5 0 0 x192000 x192001 x192002))) else (if x192000 = 1 then (some (x4,true)) else (if x192000 = 3 then (some (x4,true)) else (some (x4,(x192000 == 4)))))
def spec_l6Row.j1 : Nat → List Int → Int → Int → Int → Int → Int → Int → Option (List Int × Bool)
 | 0,_,_,_,_,_,_,_ => none
 | k + 1,x4,x5,x6,x7,x192000,x192001,x192002 => (spec_l5Is.f x5 x192002).bind fun t196 => (if t196 = true then (spec_l6Row.j2 k x4 x5 x6 1 x192000 x192001 x192002) else (spec_l6Row.j2 k x4 x5 x6 x7 x192000 x192001 x192002))
def spec_l6Row.j2 : Nat → List Int → Int → Int → Int → Int → Int → Int → Option (List Int × Bool)
 | 0,_,_,_,_,_,_,_ => none
 | k + 1,x4,x5,x6,x7,x192000,x192001,x192002 => if x192000 = 0 then (if x4.length < 17592186044416 then (spec_l6Row.l0 k (x4 ++ [wrap64 ((wrap64 (-x6)) * (wrap64 (1 - x7)))]) (wrap64 (x5 + 1)) x192000 x192001 x192002) else (none)) else (if x192000 = 1 then (if x4.length < 17592186044416 then (spec_l6Row.l0 k (x4 ++ [wrap64 (x6 * x7)]) (wrap64 (x5 + 1)) x192000 x192001 x192002) else (none)) else (if x192000 = 2 then (spec_l6Row.j3 k x4 x5 x6 x7 x192000 (x192000 == 2) x192000 x192001 x192002) else (spec_l6Row.j3 k x4 x5 x6 x7 x192000 (x192000 == 3) x192000 x192001 x192002)))
def spec_l6Row.j3 : Nat → List Int → Int → Int → Int → Int → Bool → Int → Int → Int → Option (List Int × Bool)
 | 0,_,_,_,_,_,_,_,_,_ => none
 | k + 1,x4,x5,x6,x7,x22,x49,x192000,x192001,x192002 => if x49 = true then (if x4.length < 17592186044416 then (spec_l6Row.l0 k (x4 ++ [wrap64 (x6 - x7)]) (wrap64 (x5 + 1)) x192000 x192001 x192002) else (none)) else (if x22 = 4 then (if x4.length < 17592186044416 then (spec_l6Row.l0 k (x4 ++ [wrap64 (x6 * (wrap64 ((wrap64 (2 * x7)) - 1)))]) (wrap64 (x5 + 1)) x192000 x192001 x192002) else (none)) else (if x4.length < 17592186044416 then (spec_l6Row.l0 k (x4 ++ [wrap64 (x6 * (wrap64 (1 - (wrap64 (2 * x7)))))]) (wrap64 (x5 + 1)) x192000 x192001 x192002) else (none)))
end
def spec_l6Row.f (k : Nat) (a0_0 : Int) (a0_1 : Int) (a0_2 : Int) : Option (List Int × Bool):=spec_l6Row.l0 k (([] : List Int)) 0 a0_0 a0_1 a0_2
theorem spec_l6Row.mono_l : ∀ k,(∀ y0 y1 y2 y3 y4,LeO (spec_l6Row.l0 k y0 y1 y2 y3 y4) (spec_l6Row.l0 (k + 1) y0 y1 y2 y3 y4)) ∧ (∀ y0 y1 y2 y3 y4 y5 y6,LeO (spec_l6Row.j1 k y0 y1 y2 y3 y4 y5 y6) (spec_l6Row.j1 (k + 1) y0 y1 y2 y3 y4 y5 y6)) ∧ (∀ y0 y1 y2 y3 y4 y5 y6,LeO (spec_l6Row.j2 k y0 y1 y2 y3 y4 y5 y6) (spec_l6Row.j2 (k + 1) y0 y1 y2 y3 y4 y5 y6)) ∧ (∀ y0 y1 y2 y3 y4 y5 y6 y7 y8,LeO (spec_l6Row.j3 k y0 y1 y2 y3 y4 y5 y6 y7 y8) (spec_l6Row.j3 (k + 1) y0 y1 y2 y3 y4 y5 y6 y7 y8))
 | 0 => ⟨fun _ _ _ _ _ r h => by simp [spec_l6Row.l0] at h,fun _ _ _ _ _ _ _ r h => by simp [spec_l6Row.j1] at h,fun _ _ _ _ _ _ _ r h => by simp [spec_l6Row.j2] at h,fun _ _ _ _ _ _ _ _ _ r h => by simp [spec_l6Row.j3] at h⟩
 | k + 1 => by
  obtain ⟨ih0,ih1,ih2,ih3⟩:=spec_l6Row.mono_l k;refine ⟨?_,?_,?_,?_⟩
  ·
   intro y0 y1 y2 y3 y4;unfold spec_l6Row.l0;repeat' first
   | (with_reducible exact ih1 _ _ _ _ _ _ _)
   | (with_reducible exact LeO.refl _)
   | (with_reducible refine LeO.ite ?_ ?_)
   | (with_reducible refine LeO.bind ?_ (fun _ => ?_))
  ·
   intro y0 y1 y2 y3 y4 y5 y6;unfold spec_l6Row.j1;repeat' first
   | (with_reducible exact ih2 _ _ _ _ _ _ _)
   | (with_reducible exact LeO.refl _)
   | (with_reducible refine LeO.ite ?_ ?_)
   | (with_reducible refine LeO.bind ?_ (fun _ => ?_))
  ·
   intro y0 y1 y2 y3 y4 y5 y6;unfold spec_l6Row.j2;repeat' first
   | (with_reducible exact ih0 _ _ _ _ _)
   | (with_reducible exact ih3 _ _ _ _ _ _ _ _ _)
   | (with_reducible exact LeO.refl _)
   | (with_reducible refine LeO.ite ?_ ?_)
  ·
   intro y0 y1 y2 y3 y4 y5 y6 y7 y8;unfold spec_l6Row.j3;repeat' first
   | (with_reducible exact ih0 _ _ _ _ _)
   | (with_reducible exact LeO.refl _)
   | (with_reducible refine LeO.ite ?_ ?_)
theorem spec_l6Row.mono : ∀ a0 a1 a2 k,LeO (spec_l6Row.f k a0 a1 a2) (spec_l6Row.f (k + 1) a0 a1 a2):=by
 intro a0 a1 a2 k;obtain ⟨ih0,ih1,ih2,ih3⟩:=spec_l6Row.mono_l k;unfold spec_l6Row.f;repeat' first
   | (with_reducible exact ih0 _ _ _ _ _)
set_option maxHeartbeats 8000000 in
set_option maxRecDepth 100000 in
theorem spec_l6Row.calls (k : Nat) (a0_0 : Int) (a0_1 : Int) (a0_2 : Int) (r1 : List Int) (r2 : Bool) (w : World) (h : spec_l6Row.f k a0_0 a0_1 a0_2 = some (r1,r2)) :
  Calls Try.prog 48 #[.agg #[.int .i64 a0_0,.int .i64 a0_1,.int .i64 a0_2]] w fun e w' => ∃ v0_ : Value,e = .returned (.tuple #[v0_,.bool r2]) ∧ Kd.R (Kd.int .i64) 3 w' w.heap.size (fun _ => True) v0_ r1 ∧ Below w.heap.size w w':=by
 have hu25:=Try.underlying25;have HB:=Aside0.mk (Below.refl w.heap.size w);have H : (spec_l6Row.l0 k (([] : List Int)) 0 a0_0 a0_1 a0_2) = some (r1,r2):=h;clear h;obtain ⟨y192,hy192⟩ : ∃ y_ : List Int,y_ = (([] : List Int)):=⟨_,rfl⟩
 replace H : (spec_l6Row.l0 k y192 0 a0_0 a0_1 a0_2) = some (r1,r2):=by (rw [hy192];with_reducible exact H)
 have Ny192:=Aside0.mk hy192;clear hy192;have H':=Aside0.mk H;clear H;go_enter Try.func48,Try.ntmps48;go_wp2_with (first|((with_reducible refine gate_dst (N:=1) rfl ?_);refine box_event ?hg (N:=1) ?hd (cs:=#[.int .i64 a0_0,.int .i64 a0_1,.int .i64 a0_2]) (t:=25) ?hr ?_;(case hd => rfl);(case hg => rfl);(case hr => go_simp;done);intro gb191 hg w2 hbox hb;have BK191:=Aside0.mk (hbox);have GW191:=Aside0.mk ((by rw [hg];exact (below_size (belU HB.out)) : w.heap.size ≤ gb191));have GE191:=Aside0.mk ((by rw [hg];exact (below_size (belU HB.out)) : w.heap.size ≤ gb191));replace HB:=Aside0.mk (below_step (belU HB.out) hb);clear hb hbox hg)|((with_reducible refine gate_dst (N:=8) rfl ?_);refine Kd.R_lit (Kd.int .i64) _ 3 ?hg (N:=8) ?hd (xs:=([] : List Int)) (inner:=[]) (ok:=fun _ => True) (okp:=fun _ => True) ?hr ?hp (fun _ hk => hk) trivial (Below.refl _ _) (Nat.le_refl _) (by simp) ?_;(case hd => rfl);(case hg => rfl);(case hr => go_simp;done);(case hp => exact (Reps.none _ _));intro v193 w3 ho4 hb hg_ hnew_;clear hg_ hnew_;(rw [← Ny192.out] at ho4);have HO194:=Aside0.mk (Kd.R_lower ho4 (below_size HB.out));replace BK191:=Aside0.mk (blk_below (g:=gb191) (o:=.cells #[.int .i64 a0_0,.int .i64 a0_1,.int .i64 a0_2] 25 (0,0)) (blkU BK191.out) hb);replace HB:=Aside0.mk (below_step HB.out hb);clear hb ho4))
 repeat (go_quiet (fail))
 go_loopg [4,5] k (fun kq v4 v5 w' => ∃ (x4_1 : List Int) (x5_1 : Int),v5 = .int .i64 x5_1 ∧ Aside0 (spec_l6Row.l0 kq x4_1 x5_1 a0_0 a0_1 a0_2 = some (r1,r2)) ∧ Aside0 (kq ≤ k) ∧ Aside0 (Kd.R (Kd.int .i64) 3 w' w.heap.size (fun _ => True) v4 x4_1) ∧ Aside0 (w'.heap[gb191]? = some (.cells #[.int .i64 a0_0,.int .i64 a0_1,.int .i64 a0_2] 25 (0,0))) ∧ Aside0 (Below w.heap.size w w'));case atStart => exact ⟨(y192),(0),(by rfl),H',⟨Nat.le_refl _⟩,⟨rU HO194.out⟩,⟨blkU BK191.out⟩,⟨HB.out⟩⟩
 case round =>
  clear H';obtain ⟨x4_1,x5_1,rfl,HA,HK1,HO_4,BK191,HB⟩:=hrel;cases gk with
  | zero => exact absurd HA.out (by simp [spec_l6Row.l0])
  | succ k1 =>
   have H:=HA.out;clear HA;simp only [spec_l6Row.l0] at H;by_cases c5 : x5_1 < 4
   ·
    rw [if_pos c5] at H;have c5b0 : decide (x5_1 < 4) = true:=decide_eq_true c5;clear c5;replace H:=Option.bind_eq_some_iff.mp H;obtain ⟨t195,A60,H⟩:=H;have A6:=Aside0.mk A60;clear A60;have HC7:=Aside0.mk H;clear H;have hcz8_0 : wr.cell? ⟨gb191,0,none⟩ = some (.int .i64 a0_0):=(blk_cell BK191.out 0).trans rfl;have hcz8_1 : wr.cell? ⟨gb191,1,none⟩ = some (.int .i64 a0_1):=(blk_cell BK191.out 1).trans rfl;have hcz8_2 : wr.cell? ⟨gb191,2,none⟩ = some (.int .i64 a0_2):=(blk_cell BK191.out 2).trans rfl;have hfz8_0:=blk_frozen BK191.out 0;have hfz8_1:=blk_frozen BK191.out 1;have hfz8_2:=blk_frozen BK191.out 2;go_upto_if 16 with ((go_at_call 61;(with_reducible refine (spec_l5Is.calls x5_1 a0_1 t195 _ A6.out).mono ?_);rintro e w' ⟨rfl,⟨nd,rfl⟩⟩))
    repeat (go_quiet (fail);go_upto_if 16 with (fail))
    go_cut [6] (fun v6 wc => ∃ (kq : Nat) (x6_6 : Int),v6 = .int .i64 x6_6 ∧ Aside0 (spec_l6Row.j1 kq x4_1 x5_1 x6_6 0 a0_0 a0_1 a0_2 = some (r1,r2)) ∧ Aside0 (kq ≤ k1) ∧ Aside0 (Kd.R (Kd.int .i64) 3 wc w.heap.size (fun _ => True) u4 x4_1) ∧ Aside0 (wc.heap[gb191]? = some (.cells #[.int .i64 a0_0,.int .i64 a0_1,.int .i64 a0_2] 25 (0,0))) ∧ Aside0 (Below w.heap.size w wc));case first =>
     have H:=HC7.out;clear HC7;by_cases c9 : t195 = true
     ·
      subst c9;have H1 : (spec_l6Row.j1 k1 x4_1 x5_1 1 0 a0_0 a0_1 a0_2) = some (r1,r2):=by rw [if_pos rfl] at H;exact H
      clear H;have H:=H1;clear H1;have H':=Aside0.mk H;clear H;go_wp2;repeat (go_quiet (fail))
      go_meet;case rel => exact ⟨_,(1),(by rfl),H',⟨by have:=HK1.out;omega⟩,⟨rU HO_4.out⟩,⟨blkU BK191.out⟩,⟨by repeat (with_reducible first|exact HB.out|apply pw_below_drewN)⟩⟩
     ·
      replace c9:=Bool.eq_false_iff.mpr c9;subst c9;have H1 : (spec_l6Row.j1 k1 x4_1 x5_1 0 0 a0_0 a0_1 a0_2) = some (r1,r2):=by rw [if_neg (show ¬ (false = true) by decide)] at H;exact H
      clear H;have H:=H1;clear H1;have H':=Aside0.mk H;clear H;go_wp2;repeat (go_quiet (fail))
      go_meet;case rel => exact ⟨_,(0),(by rfl),H',⟨by have:=HK1.out;omega⟩,⟨rU HO_4.out⟩,⟨blkU BK191.out⟩,⟨by repeat (with_reducible first|exact HB.out|apply pw_below_drewN)⟩⟩
    case rest =>
     clear HC7 c5b0 hcz8_0 hcz8_1 hcz8_2 hfz8_0 hfz8_1 hfz8_2;obtain ⟨kq,x6_6,rfl,HA,HJ6,HO_4,BK191,HB⟩:=hcut;cases kq with
     | zero => exact absurd HA.out (by simp [spec_l6Row.j1])
     | succ kj6 =>
      have H:=HA.out;clear HA;simp only [spec_l6Row.j1] at H;replace H:=Option.bind_eq_some_iff.mp H;obtain ⟨t196,A100,H⟩:=H;have A10:=Aside0.mk A100;clear A100;have HC11:=Aside0.mk H;clear H;have hcz12_0 : wc.cell? ⟨gb191,0,none⟩ = some (.int .i64 a0_0):=(blk_cell BK191.out 0).trans rfl;have hcz12_1 : wc.cell? ⟨gb191,1,none⟩ = some (.int .i64 a0_1):=(blk_cell BK191.out 1).trans rfl;have hcz12_2 : wc.cell? ⟨gb191,2,none⟩ = some (.int .i64 a0_2):=(blk_cell BK191.out 2).trans rfl;have hfz12_0:=blk_frozen BK191.out 0;have hfz12_1:=blk_frozen BK191.out 1;have hfz12_2:=blk_frozen BK191.out 2;go_upto_if 20 with ((go_at_call 61;(with_reducible refine (spec_l5Is.calls x5_1 a0_2 t196 _ A10.out).mono ?_);rintro e w' ⟨rfl,⟨nd,rfl⟩⟩))
      repeat (go_quiet (fail);go_upto_if 20 with (fail))
      go_cut [7] (fun v7 wc => ∃ (kq : Nat) (x7_10 : Int),v7 = .int .i64 x7_10 ∧ Aside0 (spec_l6Row.j2 kq x4_1 x5_1 x6_6 x7_10 a0_0 a0_1 a0_2 = some (r1,r2)) ∧ Aside0 (kq ≤ kj6) ∧ Aside0 (Kd.R (Kd.int .i64) 3 wc w.heap.size (fun _ => True) u4 x4_1) ∧ Aside0 (wc.heap[gb191]? = some (.cells #[.int .i64 a0_0,.int .i64 a0_1,.int .i64 a0_2] 25 (0,0))) ∧ Aside0 (Below w.heap.size w wc));case first =>
       have H:=HC11.out;clear HC11;by_cases c13 : t196 = true
       ·
        subst c13;have H1 : (spec_l6Row.j2 kj6 x4_1 x5_1 x6_6 1 a0_0 a0_1 a0_2) = some (r1,r2):=by rw [if_pos rfl] at H;exact H
        clear H;have H:=H1;clear H1;have H':=Aside0.mk H;clear H;go_wp2;repeat (go_quiet (fail))
        go_meet;case rel => exact ⟨_,(1),(by rfl),H',⟨by have:=HK1.out;have:=HJ6.out;omega⟩,⟨rU HO_4.out⟩,⟨blkU BK191.out⟩,⟨by repeat (with_reducible first|exact HB.out|apply pw_below_drewN)⟩⟩
       ·
        replace c13:=Bool.eq_false_iff.mpr c13;subst c13;have H1 : (spec_l6Row.j2 kj6 x4_1 x5_1 x6_6 0 a0_0 a0_1 a0_2) = some (r1,r2):=by rw [if_neg (show ¬ (false = true) by decide)] at H;exact H
        clear H;have H:=H1;clear H1;have H':=Aside0.mk H;clear H;go_wp2;repeat (go_quiet (fail))
        go_meet;case rel => exact ⟨_,(0),(by rfl),H',⟨by have:=HK1.out;have:=HJ6.out;omega⟩,⟨rU HO_4.out⟩,⟨blkU BK191.out⟩,⟨by repeat (with_reducible first|exact HB.out|apply pw_below_drewN)⟩⟩
      case rest =>
       clear HC11 hcz12_0 hcz12_1 hcz12_2 hfz12_0 hfz12_1 hfz12_2;obtain ⟨kq,x7_10,rfl,HA,HJ10,HO_4,BK191,HB⟩:=hcut;cases kq with
       | zero => exact absurd HA.out (by simp [spec_l6Row.j2])
       | succ kj10 =>
        have H:=HA.out;clear HA;simp only [spec_l6Row.j2] at H;by_cases c14 : a0_0 = 0
        ·
         rw [if_pos c14] at H;have c14b0 : (a0_0 == 0) = true:=beq_iff_eq.mpr c14;have c14b1 : (a0_0 != 0) = false:=bne_eq_false_iff_eq.mpr c14;clear c14;by_cases c15 : x4_1.length < 17592186044416
         ·
          rw [if_pos c15] at H;have LMc15:=Aside0.mk c15;clear c15;obtain ⟨y197,hy197⟩ : ∃ y_ : List Int,y_ = (x4_1 ++ [wrap64 ((wrap64 (-x6_6)) * (wrap64 (1 - x7_10)))]):=⟨_,rfl⟩
          replace H : (spec_l6Row.l0 kj10 y197 (wrap64 (x5_1 + 1)) a0_0 a0_1 a0_2) = some (r1,r2):=by (rw [hy197];with_reducible exact H)
          have Ny197:=Aside0.mk hy197;clear hy197;have H':=Aside0.mk H;clear H;have hcz16_0 : wc.cell? ⟨gb191,0,none⟩ = some (.int .i64 a0_0):=(blk_cell BK191.out 0).trans rfl;have hcz16_1 : wc.cell? ⟨gb191,1,none⟩ = some (.int .i64 a0_1):=(blk_cell BK191.out 1).trans rfl;have hcz16_2 : wc.cell? ⟨gb191,2,none⟩ = some (.int .i64 a0_2):=(blk_cell BK191.out 2).trans rfl;have hfz16_0:=blk_frozen BK191.out 0;have hfz16_1:=blk_frozen BK191.out 1;have hfz16_2:=blk_frozen BK191.out 2;go_wp2_with (((with_reducible refine gate_builtin (b:=.append) (xs:=#[.tmp 33,.tmp 39]) rfl ?_);at_builtin;refine Kd.R_append (Kd.int .i64) (w0:=w) w.heap.size rfl (.tmp 33) (.tmp 39) 29 3 (.int .i64 0) 8 rfl Try.underlying29 info3 rfl (by decide) (by omega) u4 x4_1 (wrap64 ((wrap64 (-x6_6)) * (wrap64 (1 - x7_10)))) [.int .i64 (wrap64 ((wrap64 (-x6_6)) * (wrap64 (1 - x7_10))))] (fun _ => True) (fun _ => False) rfl rfl ?aP (fun _ hk => hk.elim) ?aF ?aO ?aB ?aS ?aL ?_;(case aP => exact rfl);(case aB => exact HB.out);(case aF => exact (fun _ _ => trivial));(case aO => exact (rU HO_4.out));(case aS => exact (below_size HB.out));(case aL => have:=LMc15.out;omega);intro v198 w17 ho hb hg hat;rw [← Ny197.out] at ho;replace BK191:=Aside0.mk (blk_grown (g:=gb191) (o:=.cells #[.int .i64 a0_0,.int .i64 a0_1,.int .i64 a0_2] 25 (0,0)) (blkU BK191.out) hg (Kd.R_ne HO_4.out BK191.out (by decide)));replace HB:=Aside0.mk (hb);have HO199:=Aside0.mk (ho);clear HO_4 ho hb hg hat))
          repeat (go_quiet (fail))
          go_roundg kj10;case measure => have:=HK1.out;have:=HJ6.out;have:=HJ10.out;omega
          case rel => exact ⟨(y197),(wrap64 (x5_1 + 1)),(by rfl),H',⟨by have:=HK1.out;have:=HJ6.out;have:=HJ10.out;omega⟩,⟨rU HO199.out⟩,⟨blkU BK191.out⟩,⟨HB.out⟩⟩
         ·
          rw [if_neg c15] at H;exact absurd H (by simp)
        ·
         rw [if_neg c14] at H;have c14b0 : (a0_0 == 0) = false:=beq_eq_false_iff_ne.mpr c14;have c14b1 : (a0_0 != 0) = true:=bne_iff_ne.mpr c14;by_cases c18 : a0_0 = 1
         ·
          rw [if_pos c18] at H;have c18b0 : (a0_0 == 1) = true:=beq_iff_eq.mpr c18;have c18b1 : (a0_0 != 1) = false:=bne_eq_false_iff_eq.mpr c18;clear c18;by_cases c19 : x4_1.length < 17592186044416
          ·
           rw [if_pos c19] at H;have LMc19:=Aside0.mk c19;clear c19;obtain ⟨y200,hy200⟩ : ∃ y_ : List Int,y_ = (x4_1 ++ [wrap64 (x6_6 * x7_10)]):=⟨_,rfl⟩
           replace H : (spec_l6Row.l0 kj10 y200 (wrap64 (x5_1 + 1)) a0_0 a0_1 a0_2) = some (r1,r2):=by (rw [hy200];with_reducible exact H)
           have Ny200:=Aside0.mk hy200;clear hy200;have H':=Aside0.mk H;clear H;have hcz20_0 : wc.cell? ⟨gb191,0,none⟩ = some (.int .i64 a0_0):=(blk_cell BK191.out 0).trans rfl;have hcz20_1 : wc.cell? ⟨gb191,1,none⟩ = some (.int .i64 a0_1):=(blk_cell BK191.out 1).trans rfl;have hcz20_2 : wc.cell? ⟨gb191,2,none⟩ = some (.int .i64 a0_2):=(blk_cell BK191.out 2).trans rfl;have hfz20_0:=blk_frozen BK191.out 0;have hfz20_1:=blk_frozen BK191.out 1;have hfz20_2:=blk_frozen BK191.out 2;go_wp2_with (((with_reducible refine gate_builtin (b:=.append) (xs:=#[.tmp 43,.tmp 47]) rfl ?_);at_builtin;refine Kd.R_append (Kd.int .i64) (w0:=w) w.heap.size rfl (.tmp 43) (.tmp 47) 29 3 (.int .i64 0) 8 rfl Try.underlying29 info3 rfl (by decide) (by omega) u4 x4_1 (wrap64 (x6_6 * x7_10)) [.int .i64 (wrap64 (x6_6 * x7_10))] (fun _ => True) (fun _ => False) rfl rfl ?aP (fun _ hk => hk.elim) ?aF ?aO ?aB ?aS ?aL ?_;(case aP => exact rfl);(case aB => exact HB.out);(case aF => exact (fun _ _ => trivial));(case aO => exact (rU HO_4.out));(case aS => exact (below_size HB.out));(case aL => have:=LMc19.out;omega);intro v201 w21 ho hb hg hat;rw [← Ny200.out] at ho;replace BK191:=Aside0.mk (blk_grown (g:=gb191) (o:=.cells #[.int .i64 a0_0,.int .i64 a0_1,.int .i64 a0_2] 25 (0,0)) (blkU BK191.out) hg (Kd.R_ne HO_4.out BK191.out (by decide)));replace HB:=Aside0.mk (hb);have HO202:=Aside0.mk (ho);clear HO_4 ho hb hg hat))
           repeat (go_quiet (fail))
           go_roundg kj10;case measure => have:=HK1.out;have:=HJ6.out;have:=HJ10.out;omega
           case rel => exact ⟨(y200),(wrap64 (x5_1 + 1)),(by rfl),H',⟨by have:=HK1.out;have:=HJ6.out;have:=HJ10.out;omega⟩,⟨rU HO202.out⟩,⟨blkU BK191.out⟩,⟨HB.out⟩⟩
          ·
           rw [if_neg c19] at H;exact absurd H (by simp)
         ·
          rw [if_neg c18] at H;have c18b0 : (a0_0 == 1) = false:=beq_eq_false_iff_ne.mpr c18;have c18b1 : (a0_0 != 1) = true:=bne_iff_ne.mpr c18;have HC22:=Aside0.mk H;clear H;have hcz23_0 : wc.cell? ⟨gb191,0,none⟩ = some (.int .i64 a0_0):=(blk_cell BK191.out 0).trans rfl;have hcz23_1 : wc.cell? ⟨gb191,1,none⟩ = some (.int .i64 a0_1):=(blk_cell BK191.out 1).trans rfl;have hcz23_2 : wc.cell? ⟨gb191,2,none⟩ = some (.int .i64 a0_2):=(blk_cell BK191.out 2).trans rfl;have hfz23_0:=blk_frozen BK191.out 0;have hfz23_1:=blk_frozen BK191.out 1;have hfz23_2:=blk_frozen BK191.out 2;go_upto_if 49 with (fail)
          repeat (go_quiet (fail);go_upto_if 49 with (fail))
          go_cut [49] (fun v49 wc => ∃ (kq : Nat) (x49_21 : Bool),v49 = .bool x49_21 ∧ Aside0 (spec_l6Row.j3 kq x4_1 x5_1 x6_6 x7_10 a0_0 x49_21 a0_0 a0_1 a0_2 = some (r1,r2)) ∧ Aside0 (kq ≤ kj10) ∧ Aside0 (Kd.R (Kd.int .i64) 3 wc w.heap.size (fun _ => True) u4 x4_1) ∧ Aside0 (wc.heap[gb191]? = some (.cells #[.int .i64 a0_0,.int .i64 a0_1,.int .i64 a0_2] 25 (0,0))) ∧ Aside0 (Below w.heap.size w wc));case first =>
           have H:=HC22.out;clear HC22;by_cases c24 : a0_0 = 2
           ·
            rw [if_pos c24] at H;have c24b0 : (a0_0 == 2) = true:=beq_iff_eq.mpr c24;have c24b1 : (a0_0 != 2) = false:=bne_eq_false_iff_eq.mpr c24;clear c24;(rw [c24b0]);have H':=Aside0.mk H;clear H;go_wp2;repeat (go_quiet (fail))
            go_meet;case rel => exact ⟨_,((a0_0 == 2)),(by (simp [*];done)),H',⟨by have:=HK1.out;have:=HJ6.out;have:=HJ10.out;omega⟩,⟨rU HO_4.out⟩,⟨blkU BK191.out⟩,⟨HB.out⟩⟩
           ·
            rw [if_neg c24] at H;have c24b0 : (a0_0 == 2) = false:=beq_eq_false_iff_ne.mpr c24;have c24b1 : (a0_0 != 2) = true:=bne_iff_ne.mpr c24;(rw [c24b0]);have H':=Aside0.mk H;clear H;go_wp2;repeat (go_quiet (fail))
            go_meet;case rel => exact ⟨_,((a0_0 == 3)),(by rfl),H',⟨by have:=HK1.out;have:=HJ6.out;have:=HJ10.out;omega⟩,⟨rU HO_4.out⟩,⟨blkU BK191.out⟩,⟨HB.out⟩⟩
          case rest =>
           clear HC22 c14 c14b0 c14b1 c18 c18b0 c18b1 hcz23_0 hcz23_1 hcz23_2 hfz23_0 hfz23_1 hfz23_2;obtain ⟨kq,x49_21,rfl,HA,HJ21,HO_4,BK191,HB⟩:=hcut;cases kq with
           | zero => exact absurd HA.out (by simp [spec_l6Row.j3])
           | succ kj21 =>
            have H:=HA.out;clear HA;simp only [spec_l6Row.j3] at H;by_cases c25 : x49_21 = true
            ·
             subst c25;have H1 : (if x4_1.length < 17592186044416 then (spec_l6Row.l0 kj21 (x4_1 ++ [wrap64 (x6_6 - x7_10)]) (wrap64 (x5_1 + 1)) a0_0 a0_1 a0_2) else (none)) = some (r1,r2):=by rw [if_pos rfl] at H;exact H
             clear H;have H:=H1;clear H1;by_cases c26 : x4_1.length < 17592186044416
             ·
              rw [if_pos c26] at H;have LMc26:=Aside0.mk c26;clear c26;obtain ⟨y203,hy203⟩ : ∃ y_ : List Int,y_ = (x4_1 ++ [wrap64 (x6_6 - x7_10)]):=⟨_,rfl⟩
              replace H : (spec_l6Row.l0 kj21 y203 (wrap64 (x5_1 + 1)) a0_0 a0_1 a0_2) = some (r1,r2):=by (rw [hy203];with_reducible exact H)
              have Ny203:=Aside0.mk hy203;clear hy203;have H':=Aside0.mk H;clear H;go_wp2_with (((with_reducible refine gate_builtin (b:=.append) (xs:=#[.tmp 52,.tmp 56]) rfl ?_);at_builtin;refine Kd.R_append (Kd.int .i64) (w0:=w) w.heap.size rfl (.tmp 52) (.tmp 56) 29 3 (.int .i64 0) 8 rfl Try.underlying29 info3 rfl (by decide) (by omega) u4 x4_1 (wrap64 (x6_6 - x7_10)) [.int .i64 (wrap64 (x6_6 - x7_10))] (fun _ => True) (fun _ => False) rfl rfl ?aP (fun _ hk => hk.elim) ?aF ?aO ?aB ?aS ?aL ?_;(case aP => exact rfl);(case aB => exact HB.out);(case aF => exact (fun _ _ => trivial));(case aO => exact (rU HO_4.out));(case aS => exact (below_size HB.out));(case aL => have:=LMc26.out;omega);intro v204 w27 ho hb hg hat;rw [← Ny203.out] at ho;replace BK191:=Aside0.mk (blk_grown (g:=gb191) (o:=.cells #[.int .i64 a0_0,.int .i64 a0_1,.int .i64 a0_2] 25 (0,0)) (blkU BK191.out) hg (Kd.R_ne HO_4.out BK191.out (by decide)));replace HB:=Aside0.mk (hb);have HO205:=Aside0.mk (ho);clear HO_4 ho hb hg hat))
              repeat (go_quiet (fail))
              go_roundg kj21;case measure => have:=HK1.out;have:=HJ6.out;have:=HJ10.out;have:=HJ21.out;omega
              case rel => exact ⟨(y203),(wrap64 (x5_1 + 1)),(by rfl),H',⟨by have:=HK1.out;have:=HJ6.out;have:=HJ10.out;have:=HJ21.out;omega⟩,⟨rU HO205.out⟩,⟨blkU BK191.out⟩,⟨HB.out⟩⟩
             ·
              rw [if_neg c26] at H;exact absurd H (by simp)
            ·
             replace c25:=Bool.eq_false_iff.mpr c25;subst c25;have H1 : (if a0_0 = 4 then (if x4_1.length < 17592186044416 then (spec_l6Row.l0 kj21 (x4_1 ++ [wrap64 (x6_6 * (wrap64 ((wrap64 (2 * x7_10)) - 1)))]) (wrap64 (x5_1 + 1)) a0_0 a0_1 a0_2) else (none)) else (if x4_1.length < 17592186044416 then (spec_l6Row.l0 kj21 (x4_1 ++ [wrap64 (x6_6 * (wrap64 (1 - (wrap64 (2 * x7_10)))))]) (wrap64 (x5_1 + 1)) a0_0 a0_1 a0_2) else (none))) = some (r1,r2):=by rw [if_neg (show ¬ (false = true) by decide)] at H;exact H
             clear H;have H:=H1;clear H1;by_cases c28 : a0_0 = 4
             ·
              rw [if_pos c28] at H;have c28b0 : (a0_0 == 4) = true:=beq_iff_eq.mpr c28;have c28b1 : (a0_0 != 4) = false:=bne_eq_false_iff_eq.mpr c28;clear c28;by_cases c29 : x4_1.length < 17592186044416
              ·
               rw [if_pos c29] at H;have LMc29:=Aside0.mk c29;clear c29;obtain ⟨y206,hy206⟩ : ∃ y_ : List Int,y_ = (x4_1 ++ [wrap64 (x6_6 * (wrap64 ((wrap64 (2 * x7_10)) - 1)))]):=⟨_,rfl⟩
               replace H : (spec_l6Row.l0 kj21 y206 (wrap64 (x5_1 + 1)) a0_0 a0_1 a0_2) = some (r1,r2):=by (rw [hy206];with_reducible exact H)
               have Ny206:=Aside0.mk hy206;clear hy206;have H':=Aside0.mk H;clear H;go_wp2_with (((with_reducible refine gate_builtin (b:=.append) (xs:=#[.tmp 60,.tmp 66]) rfl ?_);at_builtin;refine Kd.R_append (Kd.int .i64) (w0:=w) w.heap.size rfl (.tmp 60) (.tmp 66) 29 3 (.int .i64 0) 8 rfl Try.underlying29 info3 rfl (by decide) (by omega) u4 x4_1 (wrap64 (x6_6 * (wrap64 ((wrap64 (2 * x7_10)) - 1)))) [.int .i64 (wrap64 (x6_6 * (wrap64 ((wrap64 (2 * x7_10)) - 1))))] (fun _ => True) (fun _ => False) rfl rfl ?aP (fun _ hk => hk.elim) ?aF ?aO ?aB ?aS ?aL ?_;(case aP => exact rfl);(case aB => exact HB.out);(case aF => exact (fun _ _ => trivial));(case aO => exact (rU HO_4.out));(case aS => exact (below_size HB.out));(case aL => have:=LMc29.out;omega);intro v207 w30 ho hb hg hat;rw [← Ny206.out] at ho;replace BK191:=Aside0.mk (blk_grown (g:=gb191) (o:=.cells #[.int .i64 a0_0,.int .i64 a0_1,.int .i64 a0_2] 25 (0,0)) (blkU BK191.out) hg (Kd.R_ne HO_4.out BK191.out (by decide)));replace HB:=Aside0.mk (hb);have HO208:=Aside0.mk (ho);clear HO_4 ho hb hg hat))
               repeat (go_quiet (fail))
               go_roundg kj21;case measure => have:=HK1.out;have:=HJ6.out;have:=HJ10.out;have:=HJ21.out;omega
               case rel => exact ⟨(y206),(wrap64 (x5_1 + 1)),(by rfl),H',⟨by have:=HK1.out;have:=HJ6.out;have:=HJ10.out;have:=HJ21.out;omega⟩,⟨rU HO208.out⟩,⟨blkU BK191.out⟩,⟨HB.out⟩⟩
              ·
               rw [if_neg c29] at H;exact absurd H (by simp)
             ·
              rw [if_neg c28] at H;have c28b0 : (a0_0 == 4) = false:=beq_eq_false_iff_ne.mpr c28;have c28b1 : (a0_0 != 4) = true:=bne_iff_ne.mpr c28;by_cases c31 : x4_1.length < 17592186044416
              ·
               rw [if_pos c31] at H;have LMc31:=Aside0.mk c31;clear c31;obtain ⟨y209,hy209⟩ : ∃ y_ : List Int,y_ = (x4_1 ++ [wrap64 (x6_6 * (wrap64 (1 - (wrap64 (2 * x7_10)))))]):=⟨_,rfl⟩
               replace H : (spec_l6Row.l0 kj21 y209 (wrap64 (x5_1 + 1)) a0_0 a0_1 a0_2) = some (r1,r2):=by (rw [hy209];with_reducible exact H)
               have Ny209:=Aside0.mk hy209;clear hy209;have H':=Aside0.mk H;clear H;go_wp2_with (((with_reducible refine gate_builtin (b:=.append) (xs:=#[.tmp 23,.tmp 29]) rfl ?_);at_builtin;refine Kd.R_append (Kd.int .i64) (w0:=w) w.heap.size rfl (.tmp 23) (.tmp 29) 29 3 (.int .i64 0) 8 rfl Try.underlying29 info3 rfl (by decide) (by omega) u4 x4_1 (wrap64 (x6_6 * (wrap64 (1 - (wrap64 (2 * x7_10)))))) [.int .i64 (wrap64 (x6_6 * (wrap64 (1 - (wrap64 (2 * x7_10))))))] (fun _ => True) (fun _ => False) rfl rfl ?aP (fun _ hk => hk.elim) ?aF ?aO ?aB ?aS ?aL ?_;(case aP => exact rfl);(case aB => exact HB.out);(case aF => exact (fun _ _ => trivial));(case aO => exact (rU HO_4.out));(case aS => exact (below_size HB.out));(case aL => have:=LMc31.out;omega);intro v210 w32 ho hb hg hat;rw [← Ny209.out] at ho;replace BK191:=Aside0.mk (blk_grown (g:=gb191) (o:=.cells #[.int .i64 a0_0,.int .i64 a0_1,.int .i64 a0_2] 25 (0,0)) (blkU BK191.out) hg (Kd.R_ne HO_4.out BK191.out (by decide)));replace HB:=Aside0.mk (hb);have HO211:=Aside0.mk (ho);clear HO_4 ho hb hg hat))
               repeat (go_quiet (fail))
               go_roundg kj21;case measure => have:=HK1.out;have:=HJ6.out;have:=HJ10.out;have:=HJ21.out;omega
               case rel => exact ⟨(y209),(wrap64 (x5_1 + 1)),(by rfl),H',⟨by have:=HK1.out;have:=HJ6.out;have:=HJ10.out;have:=HJ21.out;omega⟩,⟨rU HO211.out⟩,⟨blkU BK191.out⟩,⟨HB.out⟩⟩
              ·
               rw [if_neg c31] at H;exact absurd H (by simp)
   ·
    rw [if_neg c5] at H;have c5b0 : decide (x5_1 < 4) = false:=decide_eq_false c5;clear c5;by_cases c33 : a0_0 = 1
    ·
     rw [if_pos c33] at H;have c33b0 : (a0_0 == 1) = true:=beq_iff_eq.mpr c33;have c33b1 : (a0_0 != 1) = false:=bne_eq_false_iff_eq.mpr c33;clear c33;simp only [Option.some.injEq,Prod.mk.injEq] at H;obtain ⟨rfl,rfl⟩:=H;have hcz34_0 : wr.cell? ⟨gb191,0,none⟩ = some (.int .i64 a0_0):=(blk_cell BK191.out 0).trans rfl;have hcz34_1 : wr.cell? ⟨gb191,1,none⟩ = some (.int .i64 a0_1):=(blk_cell BK191.out 1).trans rfl;have hcz34_2 : wr.cell? ⟨gb191,2,none⟩ = some (.int .i64 a0_2):=(blk_cell BK191.out 2).trans rfl;have hfz34_0:=blk_frozen BK191.out 0;have hfz34_1:=blk_frozen BK191.out 1;have hfz34_2:=blk_frozen BK191.out 2;go_wp2;repeat (go_quiet (fail);try go_wp2)
     go_ret2;exact ⟨_,by rfl,rU HO_4.out,by repeat (with_reducible first|exact HB.out|apply pw_below_drewN)⟩
    ·
     rw [if_neg c33] at H;have c33b0 : (a0_0 == 1) = false:=beq_eq_false_iff_ne.mpr c33;have c33b1 : (a0_0 != 1) = true:=bne_iff_ne.mpr c33;by_cases c35 : a0_0 = 3
     ·
      rw [if_pos c35] at H;have c35b0 : (a0_0 == 3) = true:=beq_iff_eq.mpr c35;have c35b1 : (a0_0 != 3) = false:=bne_eq_false_iff_eq.mpr c35;clear c35;simp only [Option.some.injEq,Prod.mk.injEq] at H;obtain ⟨rfl,rfl⟩:=H;have hcz36_0 : wr.cell? ⟨gb191,0,none⟩ = some (.int .i64 a0_0):=(blk_cell BK191.out 0).trans rfl;have hcz36_1 : wr.cell? ⟨gb191,1,none⟩ = some (.int .i64 a0_1):=(blk_cell BK191.out 1).trans rfl;have hcz36_2 : wr.cell? ⟨gb191,2,none⟩ = some (.int .i64 a0_2):=(blk_cell BK191.out 2).trans rfl;have hfz36_0:=blk_frozen BK191.out 0;have hfz36_1:=blk_frozen BK191.out 1;have hfz36_2:=blk_frozen BK191.out 2;go_wp2;repeat (go_quiet (fail);try go_wp2)
      go_ret2;exact ⟨_,by rfl,rU HO_4.out,by repeat (with_reducible first|exact HB.out|apply pw_below_drewN)⟩
     ·
      rw [if_neg c35] at H;have c35b0 : (a0_0 == 3) = false:=beq_eq_false_iff_ne.mpr c35;have c35b1 : (a0_0 != 3) = true:=bne_iff_ne.mpr c35;simp only [Option.some.injEq,Prod.mk.injEq] at H;obtain ⟨rfl,rfl⟩:=H;have hcz37_0 : wr.cell? ⟨gb191,0,none⟩ = some (.int .i64 a0_0):=(blk_cell BK191.out 0).trans rfl;have hcz37_1 : wr.cell? ⟨gb191,1,none⟩ = some (.int .i64 a0_1):=(blk_cell BK191.out 1).trans rfl;have hcz37_2 : wr.cell? ⟨gb191,2,none⟩ = some (.int .i64 a0_2):=(blk_cell BK191.out 2).trans rfl;have hfz37_0:=blk_frozen BK191.out 0;have hfz37_1:=blk_frozen BK191.out 1;have hfz37_2:=blk_frozen BK191.out 2;go_wp2;repeat (go_quiet (fail);try go_wp2)
      go_ret2;exact ⟨_,by rfl,rU HO_4.out,by repeat (with_reducible first|exact HB.out|apply pw_below_drewN)⟩

end Go.Proofs.Ytmkfmbjemdbigaa.PA
