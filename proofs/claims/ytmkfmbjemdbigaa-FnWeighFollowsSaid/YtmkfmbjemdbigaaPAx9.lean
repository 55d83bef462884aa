/- The machine side of functions of this seat, written by the session's program myprint.py: for each Go function a Lean function and the proof that the call answers just it. -/
import Derived.Test.YtmkfmbjemdbigaaPAx0
import Derived.Test.YtmkfmbjemdbigaaUp
import Derived.Test.YtmkfmbjemdbigaaPAx8
namespace Go.Proofs.Ytmkfmbjemdbigaa.PA
open Go.RowKit Go.Proofs.YtmkfmbjemdbigaaW.PrintWords Go.Proofs.YtmkfmbjemdbigaaW.PrintLast Go.Proofs.YtmkfmbjemdbigaaW.PrintMore
attribute [local go_sem] max2_int min2_int max_two min_two max_three min_three max_four min_four   -- for this text's walks alone
set_option linter.unusedVariables false
set_option linter.unusedSimpArgs false

/-! ### impl_weightsOf: function 41 -/
mutual
def impl_weightsOf.l0 : Nat → List Int → Int → Int → Int → Int → Option (List Int)
 | 0,_,_,_,_,_ => none
 | k + 1,x3,x9,x160000,x160001,x160002 => if x9 < 4 then ((impl_isOf.f x9 x160001).bind fun t163 => (if t163 = true then (impl_weightsOf.j1 k x3 x9 1 0 x9 x160000 x160001 x160002) else (impl_weightsOf.j1 k x3 x9 0 0 x9 x160000 x160001 x160002))) else (some x3)
def impl_weightsOf.j1 : Nat → List Int → Int → Int → Int → Int → Int → Int → Int → Option (List Int)
 | 0,_,_,_,_,_,_,_,_ => none
 | k + 1,x3,x4,x5,x6,x9,x160000,x160001,x160002 => (impl_isOf.f x4 x160002).bind fun t164 => (if t164 = true then (impl_weightsOf.j2 k x3 x5 1 x9 x160000 x160001 x160002) else (impl_weightsOf.j2 k x3 x5 x6 x9 x160000 x160001 x160002))
def impl_weightsOf.j2 : Nat → List Int → Int → Int → Int → Int → Int → Int → Option (List Int)
 | 0,_,_,_,_,_,_,_ => none
 | k + 1,x3,x5,x6,x9,x160000,x160001,x160002 => if x160000 = 0 then (if x3.length < 17592186044416 then (impl_weightsOf.l0 k (x3 ++ [wrap64 (x5 * (wrap64 (x6 - 1)))]) (wrap64 (x9 + 1)) x160000 x160001 x160002) else (none)) else (if x160000 = 2 then (impl_weightsOf.j3 k x3 x5 x6 (wrap64 (x5 * x6)) x9 x160000 (x160000 == 2) x160000 x160001 x160002) else (impl_weightsOf.j3 k x3 x5 x6 (wrap64 (x5 * x6)) x9 x160000 (x160000 == 3) x160000 x160001 x160002))
def impl_weightsOf.j3 : Nat → List Int → Int → Int → Int → Int → Int → Bool → Int → Int → Int → Option (List Int)
 | 0,_,_,_,_,_,_,_,_,_,_ => none
 | k + 1,x3,x5,x6,x7,x9,x24,x31,x160000,x160001,x160002 => if x31 = true then (if x3.length < 17592186044416 then (impl_weightsOf.l0 k (x3 ++ [wrap64 (x5 - x6)]) (wrap64 (x9 + 1)) x160000 x160001 x160002) else (none)) else (if x24 = 4 then (if x3.length < 17592186044416 then (impl_weightsOf.l0 k (x3 ++ [wrap64 ((wrap64 ((wrap64 (2 * x5)) * x6)) - x5)]) (wrap64 (x9 + 1)) x160000 x160001 x160002) else (none)) else (if x24 = 5 then (if x3.length < 17592186044416 then (impl_weightsOf.l0 k (x3 ++ [wrap64 (x5 - (wrap64 ((wrap64 (2 * x5)) * x6)))]) (wrap64 (x9 + 1)) x160000 x160001 x160002) else (none)) else (if x3.length < 17592186044416 then (impl_weightsOf.l0 k (x3 ++ [x7]) (wrap64 (x9 + 1)) x160000 x160001 x160002) else (none))))
end
def impl_weightsOf.f (k : Nat) (a0_0 : Int) (a0_1 : Int) (a0_2 : Int) : Option (List Int):=impl_weightsOf.l0 k (([] : List Int)) 0 a0_0 a0_1 a0_2
theorem impl_weightsOf.mono_l : ∀ k,(∀ y0 y1 y2 y3 y4,LeO (impl_weightsOf.l0 k y0 y1 y2 y3 y4) (impl_weightsOf.l0 (k + 1) y0 y1 y2 y3 y4)) ∧ (∀ y0 y1 y2 y3 y4 y5 y6 y7,LeO (impl_weightsOf.j1 k y0 y1 y2 y3 y4 y5 y6 y7) (impl_weightsOf.j1 (k + 1) y0 y1 y2 y3 y4 y5 y6 y7)) ∧ (∀ y0 y1 y2 y3 y4 y5 y6,LeO (impl_weightsOf.j2 k y0 y1 y2 y3 y4 y5 y6) (impl_weightsOf.j2 (k + 1) y0 y1 y2 y3 y4 y5 y6)) ∧ (∀ y0 y1 y2 y3 y4 y5 y6 y7 y8 y9,LeO (impl_weightsOf.j3 k y0 y1 y2 y3 y4 y5 y6 y7 y8 y9) (impl_weightsOf.j3 (k + 1) y0 y1 y2 y3 y4 y5 y6 y7 y8 y9))
 | 0 => ⟨fun _ _ _ _ _ r h => by simp [impl_weightsOf.l0] at h,fun _ _ _ _ _ _ _ _ r h => by simp [impl_weightsOf.j1] at h,fun _ _ _ _ _ _ _ r h => by simp [impl_weightsOf.j2] at h,fun _ _ _ _ _ _ _ _ _ _ r h => by simp [impl_weightsOf.j3] at h⟩
 | k + 1 => by
  obtain ⟨ih0,ih1,ih2,ih3⟩:=impl_weightsOf.mono_l k;refine ⟨?_,?_,?_,?_⟩
  ·
   intro y0 y1 y2 y3 y4;unfold impl_weightsOf.l0;repeat' first
   | (with_reducible exact ih1 _ _ _ _ _ _ _ _)
   | (with_reducible exact LeO.refl _)
   | (with_reducible refine LeO.ite ?_ ?_)
   | (with_reducible refine LeO.bind ?_ (fun _ => ?_))
  ·
   intro y0 y1 y2 y3 y4 y5 y6 y7;unfold impl_weightsOf.j1;repeat' first
   | (with_reducible exact ih2 _ _ _ _ _ _ _)
   | (with_reducible exact LeO.refl _)
   | (with_reducible refine LeO.ite ?_ ?_)
   | (with_reducible refine LeO.bind ?_ (fun _ => ?_))
  ·
   intro y0 y1 y2 y3 y4 y5 y6;unfold impl_weightsOf.j2;repeat' first
   | (with_reducible exact ih0 _ _ _ _ _)
   | (with_reducible exact ih3 _ _ _ _ _ _ _ _ _ _)
   | (with_reducible exact LeO.refl _)
   | (with_reducible refine LeO.ite ?_ ?_)
  ·
   intro y0 y1 y2 y3 y4 y5 y6 y7 y8 y9;unfold impl_weightsOf.j3;repeat' first
   | (with_reducible exact ih0 _ _ _ _ _)
   | (with_reducible exact LeO.refl _)
   | (with_reducible refine LeO.ite ?_ ?_)
theorem impl_weightsOf.mono : ∀ a0 a1 a2 k,LeO (impl_weightsOf.f k a0 a1 a2) (impl_weightsOf.f (k + 1) a0 a1 a2):=by
 intro a0 a1 a2 k;obtain ⟨ih0,ih1,ih2,ih3⟩:=impl_weightsOf.mono_l k;unfold impl_weightsOf.f;repeat' first
   | (with_reducible exact ih0 _ _ _ _ _)
set_option maxHeartbeats 8000000 in
set_option maxRecDepth 100000 in
theorem impl_weightsOf.calls (k : Nat) (a0_0 : Int) (a0_1 : Int) (a0_2 : Int) (r : List Int) (w : World) (h : impl_weightsOf.f k a0_0 a0_1 a0_2 = some r) :
  Calls Try.prog 41 #[.agg #[.int .i64 a0_0,.int .i64 a0_1,.int .i64 a0_2]] w fun e w' => ∃ v0_ : Value,e = .returned (v0_) ∧ Kd.R (Kd.int .i64) 3 w' w.heap.size (fun _ => True) v0_ r ∧ Below w.heap.size w w':=by
 have hu25:=Try.underlying25;have HB:=Aside0.mk (Below.refl w.heap.size w);have H : (impl_weightsOf.l0 k (([] : List Int)) 0 a0_0 a0_1 a0_2) = some r:=h;clear h;obtain ⟨y160,hy160⟩ : ∃ y_ : List Int,y_ = (([] : List Int)):=⟨_,rfl⟩
 replace H : (impl_weightsOf.l0 k y160 0 a0_0 a0_1 a0_2) = some r:=by (rw [hy160];with_reducible exact H)
 have Ny160:=Aside0.mk hy160;clear hy160;have H':=Aside0.mk H;clear H;go_enter Try.func41,Try.ntmps41;go_wp2_with (first|((with_reducible refine gate_dst (N:=1) rfl ?_);refine box_event ?hg (N:=1) ?hd (cs:=#[.int .i64 a0_0,.int .i64 a0_1,.int .i64 a0_2]) (t:=25) ?hr ?_;(case hd => rfl);(case hg => rfl);(case hr => go_simp;done);intro gb159 hg w2 hbox hb;have BK159:=Aside0.mk (hbox);have GW159:=Aside0.mk ((by rw [hg];exact (below_size (belU HB.out)) : w.heap.size ≤ gb159));have GE159:=Aside0.mk ((by rw [hg];exact (below_size (belU HB.out)) : w.heap.size ≤ gb159));replace HB:=Aside0.mk (below_step (belU HB.out) hb);clear hb hbox hg)|((with_reducible refine gate_dst (N:=8) rfl ?_);refine Kd.R_lit (Kd.int .i64) _ 3 ?hg (N:=8) ?hd (xs:=([] : List Int)) (inner:=[]) (ok:=fun _ => True) (okp:=fun _ => True) ?hr ?hp (fun _ hk => hk) trivial (Below.refl _ _) (Nat.le_refl _) (by simp) ?_;(case hd => rfl);(case hg => rfl);(case hr => go_simp;done);(case hp => exact (Reps.none _ _));intro v161 w3 ho4 hb hg_ hnew_;clear hg_ hnew_;(rw [← Ny160.out] at ho4);have HO162:=Aside0.mk (Kd.R_lower ho4 (below_size HB.out));replace BK159:=Aside0.mk (blk_below (g:=gb159) (o:=.cells #[.int .i64 a0_0,.int .i64 a0_1,.int .i64 a0_2] 25 (0,0)) (blkU BK159.out) hb);replace HB:=Aside0.mk (below_step HB.out hb);clear hb ho4))
 go_loopg [3,9] k (fun kq v3 v9 w' => ∃ (x3_1 : List Int) (x9_1 : Int),v9 = .int .i64 x9_1 ∧ Aside0 (impl_weightsOf.l0 kq x3_1 x9_1 a0_0 a0_1 a0_2 = some r) ∧ Aside0 (kq ≤ k) ∧ Aside0 (Kd.R (Kd.int .i64) 3 w' w.heap.size (fun _ => True) v3 x3_1) ∧ Aside0 (w'.heap[gb159]? = some (.cells #[.int .i64 a0_0,.int .i64 a0_1,.int .i64 a0_2] 25 (0,0))) ∧ Aside0 (Below w.heap.size w w'));case atStart => exact ⟨(y160),(0),(by rfl),H',⟨Nat.le_refl _⟩,⟨rU HO162.out⟩,⟨blkU BK159.out⟩,⟨HB.out⟩⟩
 case round =>
  clear H';obtain ⟨x3_1,x9_1,rfl,HA,HK1,HO_3,BK159,HB⟩:=hrel;cases gk with
  | zero => exact absurd HA.out (by simp [impl_weightsOf.l0])
  | succ k1 =>
   have H:=HA.out;clear HA;simp only [impl_weightsOf.l0] at H;by_cases c5 : x9_1 < 4
   ·
    rw [if_pos c5] at H;have c5b0 : decide (x9_1 < 4) = true:=decide_eq_true c5;clear c5;replace H:=Option.bind_eq_some_iff.mp H;obtain ⟨t163,A60,H⟩:=H;have A6:=Aside0.mk A60;clear A60;have HC7:=Aside0.mk H;clear H;have hcz8_0 : wr.cell? ⟨gb159,0,none⟩ = some (.int .i64 a0_0):=(blk_cell BK159.out 0).trans rfl;have hcz8_1 : wr.cell? ⟨gb159,1,none⟩ = some (.int .i64 a0_1):=(blk_cell BK159.out 1).trans rfl;have hcz8_2 : wr.cell? ⟨gb159,2,none⟩ = some (.int .i64 a0_2):=(blk_cell BK159.out 2).trans rfl;have hfz8_0:=blk_frozen BK159.out 0;have hfz8_1:=blk_frozen BK159.out 1;have hfz8_2:=blk_frozen BK159.out 2;go_upto_if 15 with (((with_reducible refine gate_callee (f:=53) rfl ?_);refine goesL_ (some 15) rfl rfl Try.func53 (by kernel_rfl) rfl #[.int .i64 x9_1,.int .i64 a0_1] rfl (by (try simp only [List.map_toArray,List.map_cons,List.map_nil]);rfl) ?_;(with_reducible refine (impl_isOf.calls x9_1 a0_1 t163 _ A6.out).mono ?_);rintro e w' ⟨rfl,⟨nd,rfl⟩⟩;refine ⟨_,rfl,?_⟩))
    (try simp only [Act.put,List.setIfInBounds_toArray,List.set_cons_zero,List.set_cons_succ]);go_cut [5] (fun v5 wc => ∃ (kq : Nat) (x5_6 : Int),v5 = .int .i64 x5_6 ∧ Aside0 (impl_weightsOf.j1 kq x3_1 x9_1 x5_6 0 x9_1 a0_0 a0_1 a0_2 = some r) ∧ Aside0 (kq ≤ k1) ∧ Aside0 (Kd.R (Kd.int .i64) 3 wc w.heap.size (fun _ => True) u3 x3_1) ∧ Aside0 (wc.heap[gb159]? = some (.cells #[.int .i64 a0_0,.int .i64 a0_1,.int .i64 a0_2] 25 (0,0))) ∧ Aside0 (Below w.heap.size w wc));case first =>
     have H:=HC7.out;clear HC7;by_cases c9 : t163 = true
     ·
      subst c9;have H1 : (impl_weightsOf.j1 k1 x3_1 x9_1 1 0 x9_1 a0_0 a0_1 a0_2) = some r:=by rw [if_pos rfl] at H;exact H
      clear H;have H:=H1;clear H1;have H':=Aside0.mk H;clear H;go_wp2;go_meet;case rel => exact ⟨_,(1),(by rfl),H',⟨by have:=HK1.out;omega⟩,⟨rU HO_3.out⟩,⟨blkU BK159.out⟩,⟨by repeat (with_reducible first|exact HB.out|apply pw_below_drewN)⟩⟩
     ·
      replace c9:=Bool.eq_false_iff.mpr c9;subst c9;have H1 : (impl_weightsOf.j1 k1 x3_1 x9_1 0 0 x9_1 a0_0 a0_1 a0_2) = some r:=by rw [if_neg (show ¬ (false = true) by decide)] at H;exact H
      clear H;have H:=H1;clear H1;have H':=Aside0.mk H;clear H;go_wp2;go_meet;case rel => exact ⟨_,(0),(by rfl),H',⟨by have:=HK1.out;omega⟩,⟨rU HO_3.out⟩,⟨blkU BK159.out⟩,⟨by repeat (with_reducible first|exact HB.out|apply pw_below_drewN)⟩⟩
    case rest =>
     clear HC7 c5b0 hcz8_0 hcz8_1 hcz8_2 hfz8_0 hfz8_1 hfz8_2;obtain ⟨kq,x5_6,rfl,HA,HJ6,HO_3,BK159,HB⟩:=hcut;cases kq with
     | zero => exact absurd HA.out (by simp [impl_weightsOf.j1])
     | succ kj6 =>
      have H:=HA.out;clear HA;simp only [impl_weightsOf.j1] at H;replace H:=Option.bind_eq_some_iff.mp H;obtain ⟨t164,A100,H⟩:=H;have A10:=Aside0.mk A100;clear A100;have HC11:=Aside0.mk H;clear H;have hcz12_0 : wc.cell? ⟨gb159,0,none⟩ = some (.int .i64 a0_0):=(blk_cell BK159.out 0).trans rfl;have hcz12_1 : wc.cell? ⟨gb159,1,none⟩ = some (.int .i64 a0_1):=(blk_cell BK159.out 1).trans rfl;have hcz12_2 : wc.cell? ⟨gb159,2,none⟩ = some (.int .i64 a0_2):=(blk_cell BK159.out 2).trans rfl;have hfz12_0:=blk_frozen BK159.out 0;have hfz12_1:=blk_frozen BK159.out 1;have hfz12_2:=blk_frozen BK159.out 2;go_upto_if 19 with (((with_reducible refine gate_callee (f:=53) rfl ?_);refine goesL_ (some 19) rfl rfl Try.func53 (by kernel_rfl) rfl #[.int .i64 x9_1,.int .i64 a0_2] rfl (by (try simp only [List.map_toArray,List.map_cons,List.map_nil]);rfl) ?_;(with_reducible refine (impl_isOf.calls x9_1 a0_2 t164 _ A10.out).mono ?_);rintro e w' ⟨rfl,⟨nd,rfl⟩⟩;refine ⟨_,rfl,?_⟩))
      (try simp only [Act.put,List.setIfInBounds_toArray,List.set_cons_zero,List.set_cons_succ]);go_cut [6] (fun v6 wc => ∃ (kq : Nat) (x6_10 : Int),v6 = .int .i64 x6_10 ∧ Aside0 (impl_weightsOf.j2 kq x3_1 x5_6 x6_10 x9_1 a0_0 a0_1 a0_2 = some r) ∧ Aside0 (kq ≤ kj6) ∧ Aside0 (Kd.R (Kd.int .i64) 3 wc w.heap.size (fun _ => True) u3 x3_1) ∧ Aside0 (wc.heap[gb159]? = some (.cells #[.int .i64 a0_0,.int .i64 a0_1,.int .i64 a0_2] 25 (0,0))) ∧ Aside0 (Below w.heap.size w wc));case first =>
       have H:=HC11.out;clear HC11;by_cases c13 : t164 = true
       ·
        subst c13;have H1 : (impl_weightsOf.j2 kj6 x3_1 x5_6 1 x9_1 a0_0 a0_1 a0_2) = some r:=by rw [if_pos rfl] at H;exact H
        clear H;have H:=H1;clear H1;have H':=Aside0.mk H;clear H;go_wp2;go_meet;case rel => exact ⟨_,(1),(by rfl),H',⟨by have:=HK1.out;have:=HJ6.out;omega⟩,⟨rU HO_3.out⟩,⟨blkU BK159.out⟩,⟨by repeat (with_reducible first|exact HB.out|apply pw_below_drewN)⟩⟩
       ·
        replace c13:=Bool.eq_false_iff.mpr c13;subst c13;have H1 : (impl_weightsOf.j2 kj6 x3_1 x5_6 0 x9_1 a0_0 a0_1 a0_2) = some r:=by rw [if_neg (show ¬ (false = true) by decide)] at H;exact H
        clear H;have H:=H1;clear H1;have H':=Aside0.mk H;clear H;go_wp2;go_meet;case rel => exact ⟨_,(0),(by rfl),H',⟨by have:=HK1.out;have:=HJ6.out;omega⟩,⟨rU HO_3.out⟩,⟨blkU BK159.out⟩,⟨by repeat (with_reducible first|exact HB.out|apply pw_below_drewN)⟩⟩
      case rest =>
       clear HC11 hcz12_0 hcz12_1 hcz12_2 hfz12_0 hfz12_1 hfz12_2;obtain ⟨kq,x6_10,rfl,HA,HJ10,HO_3,BK159,HB⟩:=hcut;cases kq with
       | zero => exact absurd HA.out (by simp [impl_weightsOf.j2])
       | succ kj10 =>
        have H:=HA.out;clear HA;simp only [impl_weightsOf.j2] at H;by_cases c14 : a0_0 = 0
        ·
         rw [if_pos c14] at H;have c14b0 : (a0_0 == 0) = true:=beq_iff_eq.mpr c14;have c14b1 : (a0_0 != 0) = false:=bne_eq_false_iff_eq.mpr c14;clear c14;by_cases c15 : x3_1.length < 17592186044416
         ·
          rw [if_pos c15] at H;have LMc15:=Aside0.mk c15;clear c15;obtain ⟨y165,hy165⟩ : ∃ y_ : List Int,y_ = (x3_1 ++ [wrap64 (x5_6 * (wrap64 (x6_10 - 1)))]):=⟨_,rfl⟩
          replace H : (impl_weightsOf.l0 kj10 y165 (wrap64 (x9_1 + 1)) a0_0 a0_1 a0_2) = some r:=by (rw [hy165];with_reducible exact H)
          have Ny165:=Aside0.mk hy165;clear hy165;have H':=Aside0.mk H;clear H;have hcz16_0 : wc.cell? ⟨gb159,0,none⟩ = some (.int .i64 a0_0):=(blk_cell BK159.out 0).trans rfl;have hcz16_1 : wc.cell? ⟨gb159,1,none⟩ = some (.int .i64 a0_1):=(blk_cell BK159.out 1).trans rfl;have hcz16_2 : wc.cell? ⟨gb159,2,none⟩ = some (.int .i64 a0_2):=(blk_cell BK159.out 2).trans rfl;have hfz16_0:=blk_frozen BK159.out 0;have hfz16_1:=blk_frozen BK159.out 1;have hfz16_2:=blk_frozen BK159.out 2;go_wp2_with (((with_reducible refine gate_builtin (b:=.append) (xs:=#[.tmp 53,.tmp 55]) rfl ?_);at_builtin;refine Kd.R_append (Kd.int .i64) (w0:=w) w.heap.size rfl (.tmp 53) (.tmp 55) 29 3 (.int .i64 0) 8 rfl Try.underlying29 info3 rfl (by decide) (by omega) u3 x3_1 (wrap64 (x5_6 * (wrap64 (x6_10 - 1)))) [.int .i64 (wrap64 (x5_6 * (wrap64 (x6_10 - 1))))] (fun _ => True) (fun _ => False) rfl rfl ?aP (fun _ hk => hk.elim) ?aF ?aO ?aB ?aS ?aL ?_;(case aP => exact rfl);(case aB => exact HB.out);(case aF => exact (fun _ _ => trivial));(case aO => exact (rU HO_3.out));(case aS => exact (below_size HB.out));(case aL => have:=LMc15.out;omega);intro v166 w17 ho hb hg hat;rw [← Ny165.out] at ho;replace BK159:=Aside0.mk (blk_grown (g:=gb159) (o:=.cells #[.int .i64 a0_0,.int .i64 a0_1,.int .i64 a0_2] 25 (0,0)) (blkU BK159.out) hg (Kd.R_ne HO_3.out BK159.out (by decide)));replace HB:=Aside0.mk (hb);have HO167:=Aside0.mk (ho);clear HO_3 ho hb hg hat))
          go_roundg kj10;case measure => have:=HK1.out;have:=HJ6.out;have:=HJ10.out;omega
          case rel => exact ⟨(y165),(wrap64 (x9_1 + 1)),(by rfl),H',⟨by have:=HK1.out;have:=HJ6.out;have:=HJ10.out;omega⟩,⟨rU HO167.out⟩,⟨blkU BK159.out⟩,⟨HB.out⟩⟩
         ·
          rw [if_neg c15] at H;exact absurd H (by simp)
        ·
         rw [if_neg c14] at H;have c14b0 : (a0_0 == 0) = false:=beq_eq_false_iff_ne.mpr c14;have c14b1 : (a0_0 != 0) = true:=bne_iff_ne.mpr c14;have HC18:=Aside0.mk H;clear H;have hcz19_0 : wc.cell? ⟨gb159,0,none⟩ = some (.int .i64 a0_0):=(blk_cell BK159.out 0).trans rfl;have hcz19_1 : wc.cell? ⟨gb159,1,none⟩ = some (.int .i64 a0_1):=(blk_cell BK159.out 1).trans rfl;have hcz19_2 : wc.cell? ⟨gb159,2,none⟩ = some (.int .i64 a0_2):=(blk_cell BK159.out 2).trans rfl;have hfz19_0:=blk_frozen BK159.out 0;have hfz19_1:=blk_frozen BK159.out 1;have hfz19_2:=blk_frozen BK159.out 2;go_upto_if 31 with (fail)
         go_cut [31] (fun v31 wc => ∃ (kq : Nat) (x31_17 : Bool),v31 = .bool x31_17 ∧ Aside0 (impl_weightsOf.j3 kq x3_1 x5_6 x6_10 (wrap64 (x5_6 * x6_10)) x9_1 a0_0 x31_17 a0_0 a0_1 a0_2 = some r) ∧ Aside0 (kq ≤ kj10) ∧ Aside0 (Kd.R (Kd.int .i64) 3 wc w.heap.size (fun _ => True) u3 x3_1) ∧ Aside0 (wc.heap[gb159]? = some (.cells #[.int .i64 a0_0,.int .i64 a0_1,.int .i64 a0_2] 25 (0,0))) ∧ Aside0 (Below w.heap.size w wc));case first =>
          have H:=HC18.out;clear HC18;by_cases c20 : a0_0 = 2
          ·
           rw [if_pos c20] at H;have c20b0 : (a0_0 == 2) = true:=beq_iff_eq.mpr c20;have c20b1 : (a0_0 != 2) = false:=bne_eq_false_iff_eq.mpr c20;clear c20;(rw [c20b0]);have H':=Aside0.mk H;clear H;go_wp2;go_meet;case rel => exact ⟨_,((a0_0 == 2)),(by (simp [*];done)),H',⟨by have:=HK1.out;have:=HJ6.out;have:=HJ10.out;omega⟩,⟨rU HO_3.out⟩,⟨blkU BK159.out⟩,⟨HB.out⟩⟩
          ·
           rw [if_neg c20] at H;have c20b0 : (a0_0 == 2) = false:=beq_eq_false_iff_ne.mpr c20;have c20b1 : (a0_0 != 2) = true:=bne_iff_ne.mpr c20;(rw [c20b0]);have H':=Aside0.mk H;clear H;go_wp2;go_meet;case rel => exact ⟨_,((a0_0 == 3)),(by rfl),H',⟨by have:=HK1.out;have:=HJ6.out;have:=HJ10.out;omega⟩,⟨rU HO_3.out⟩,⟨blkU BK159.out⟩,⟨HB.out⟩⟩
         case rest =>
          clear HC18 c14 c14b0 c14b1 hcz19_0 hcz19_1 hcz19_2 hfz19_0 hfz19_1 hfz19_2;obtain ⟨kq,x31_17,rfl,HA,HJ17,HO_3,BK159,HB⟩:=hcut;cases kq with
          | zero => exact absurd HA.out (by simp [impl_weightsOf.j3])
          | succ kj17 =>
           have H:=HA.out;clear HA;simp only [impl_weightsOf.j3] at H;by_cases c21 : x31_17 = true
           ·
            subst c21;have H1 : (if x3_1.length < 17592186044416 then (impl_weightsOf.l0 kj17 (x3_1 ++ [wrap64 (x5_6 - x6_10)]) (wrap64 (x9_1 + 1)) a0_0 a0_1 a0_2) else (none)) = some r:=by rw [if_pos rfl] at H;exact H
            clear H;have H:=H1;clear H1;by_cases c22 : x3_1.length < 17592186044416
            ·
             rw [if_pos c22] at H;have LMc22:=Aside0.mk c22;clear c22;obtain ⟨y168,hy168⟩ : ∃ y_ : List Int,y_ = (x3_1 ++ [wrap64 (x5_6 - x6_10)]):=⟨_,rfl⟩
             replace H : (impl_weightsOf.l0 kj17 y168 (wrap64 (x9_1 + 1)) a0_0 a0_1 a0_2) = some r:=by (rw [hy168];with_reducible exact H)
             have Ny168:=Aside0.mk hy168;clear hy168;have H':=Aside0.mk H;clear H;go_wp2_with (((with_reducible refine gate_builtin (b:=.append) (xs:=#[.tmp 53,.tmp 55]) rfl ?_);at_builtin;refine Kd.R_append (Kd.int .i64) (w0:=w) w.heap.size rfl (.tmp 53) (.tmp 55) 29 3 (.int .i64 0) 8 rfl Try.underlying29 info3 rfl (by decide) (by omega) u3 x3_1 (wrap64 (x5_6 - x6_10)) [.int .i64 (wrap64 (x5_6 - x6_10))] (fun _ => True) (fun _ => False) rfl rfl ?aP (fun _ hk => hk.elim) ?aF ?aO ?aB ?aS ?aL ?_;(case aP => exact rfl);(case aB => exact HB.out);(case aF => exact (fun _ _ => trivial));(case aO => exact (rU HO_3.out));(case aS => exact (below_size HB.out));(case aL => have:=LMc22.out;omega);intro v169 w23 ho hb hg hat;rw [← Ny168.out] at ho;replace BK159:=Aside0.mk (blk_grown (g:=gb159) (o:=.cells #[.int .i64 a0_0,.int .i64 a0_1,.int .i64 a0_2] 25 (0,0)) (blkU BK159.out) hg (Kd.R_ne HO_3.out BK159.out (by decide)));replace HB:=Aside0.mk (hb);have HO170:=Aside0.mk (ho);clear HO_3 ho hb hg hat))
             go_roundg kj17;case measure => have:=HK1.out;have:=HJ6.out;have:=HJ10.out;have:=HJ17.out;omega
             case rel => exact ⟨(y168),(wrap64 (x9_1 + 1)),(by rfl),H',⟨by have:=HK1.out;have:=HJ6.out;have:=HJ10.out;have:=HJ17.out;omega⟩,⟨rU HO170.out⟩,⟨blkU BK159.out⟩,⟨HB.out⟩⟩
            ·
             rw [if_neg c22] at H;exact absurd H (by simp)
           ·
            replace c21:=Bool.eq_false_iff.mpr c21;subst c21;have H1 : (if a0_0 = 4 then (if x3_1.length < 17592186044416 then (impl_weightsOf.l0 kj17 (x3_1 ++ [wrap64 ((wrap64 ((wrap64 (2 * x5_6)) * x6_10)) - x5_6)]) (wrap64 (x9_1 + 1)) a0_0 a0_1 a0_2) else (none)) else (if a0_0 = 5 then (if x3_1.length < 17592186044416 then (impl_weightsOf.l0 kj17 (x3_1 ++ [wrap64 (x5_6 - (wrap64 ((wrap64 (2 * x5_6)) * x6_10)))]) (wrap64 (x9_1 + 1)) a0_0 a0_1 a0_2) else (none)) else (if x3_1.length < 17592186044416 then (impl_weightsOf.l0 kj17 (x3_1 ++ [(wrap64 (x5_6 * x6_10))]) (wrap64 (x9_1 + 1)) a0_0 a0_1 a0_2) else (none)))) = some r:=by rw [if_neg (show ¬ (false = true) by decide)] at H;exact H
            clear H;have H:=H1;clear H1;by_cases c24 : a0_0 = 4
            ·
             rw [if_pos c24] at H;have c24b0 : (a0_0 == 4) = true:=beq_iff_eq.mpr c24;have c24b1 : (a0_0 != 4) = false:=bne_eq_false_iff_eq.mpr c24;clear c24;by_cases c25 : x3_1.length < 17592186044416
             ·
              rw [if_pos c25] at H;have LMc25:=Aside0.mk c25;clear c25;obtain ⟨y171,hy171⟩ : ∃ y_ : List Int,y_ = (x3_1 ++ [wrap64 ((wrap64 ((wrap64 (2 * x5_6)) * x6_10)) - x5_6)]):=⟨_,rfl⟩
              replace H : (impl_weightsOf.l0 kj17 y171 (wrap64 (x9_1 + 1)) a0_0 a0_1 a0_2) = some r:=by (rw [hy171];with_reducible exact H)
              have Ny171:=Aside0.mk hy171;clear hy171;have H':=Aside0.mk H;clear H;go_wp2_with (((with_reducible refine gate_builtin (b:=.append) (xs:=#[.tmp 53,.tmp 55]) rfl ?_);at_builtin;refine Kd.R_append (Kd.int .i64) (w0:=w) w.heap.size rfl (.tmp 53) (.tmp 55) 29 3 (.int .i64 0) 8 rfl Try.underlying29 info3 rfl (by decide) (by omega) u3 x3_1 (wrap64 ((wrap64 ((wrap64 (2 * x5_6)) * x6_10)) - x5_6)) [.int .i64 (wrap64 ((wrap64 ((wrap64 (2 * x5_6)) * x6_10)) - x5_6))] (fun _ => True) (fun _ => False) rfl rfl ?aP (fun _ hk => hk.elim) ?aF ?aO ?aB ?aS ?aL ?_;(case aP => exact rfl);(case aB => exact HB.out);(case aF => exact (fun _ _ => trivial));(case aO => exact (rU HO_3.out));(case aS => exact (below_size HB.out));(case aL => have:=LMc25.out;omega);intro v172 w26 ho hb hg hat;rw [← Ny171.out] at ho;replace BK159:=Aside0.mk (blk_grown (g:=gb159) (o:=.cells #[.int .i64 a0_0,.int .i64 a0_1,.int .i64 a0_2] 25 (0,0)) (blkU BK159.out) hg (Kd.R_ne HO_3.out BK159.out (by decide)));replace HB:=Aside0.mk (hb);have HO173:=Aside0.mk (ho);clear HO_3 ho hb hg hat))
              go_roundg kj17;case measure => have:=HK1.out;have:=HJ6.out;have:=HJ10.out;have:=HJ17.out;omega
              case rel => exact ⟨(y171),(wrap64 (x9_1 + 1)),(by rfl),H',⟨by have:=HK1.out;have:=HJ6.out;have:=HJ10.out;have:=HJ17.out;omega⟩,⟨rU HO173.out⟩,⟨blkU BK159.out⟩,⟨HB.out⟩⟩
             ·
              rw [if_neg c25] at H;exact absurd H (by simp)
            ·
             rw [if_neg c24] at H;have c24b0 : (a0_0 == 4) = false:=beq_eq_false_iff_ne.mpr c24;have c24b1 : (a0_0 != 4) = true:=bne_iff_ne.mpr c24;by_cases c27 : a0_0 = 5
             ·
              rw [if_pos c27] at H;have c27b0 : (a0_0 == 5) = true:=beq_iff_eq.mpr c27;have c27b1 : (a0_0 != 5) = false:=bne_eq_false_iff_eq.mpr c27;clear c27;by_cases c28 : x3_1.length < 17592186044416
              ·
               rw [if_pos c28] at H;have LMc28:=Aside0.mk c28;clear c28;obtain ⟨y174,hy174⟩ : ∃ y_ : List Int,y_ = (x3_1 ++ [wrap64 (x5_6 - (wrap64 ((wrap64 (2 * x5_6)) * x6_10)))]):=⟨_,rfl⟩
               replace H : (impl_weightsOf.l0 kj17 y174 (wrap64 (x9_1 + 1)) a0_0 a0_1 a0_2) = some r:=by (rw [hy174];with_reducible exact H)
               have Ny174:=Aside0.mk hy174;clear hy174;have H':=Aside0.mk H;clear H;go_wp2_with (((with_reducible refine gate_builtin (b:=.append) (xs:=#[.tmp 53,.tmp 55]) rfl ?_);at_builtin;refine Kd.R_append (Kd.int .i64) (w0:=w) w.heap.size rfl (.tmp 53) (.tmp 55) 29 3 (.int .i64 0) 8 rfl Try.underlying29 info3 rfl (by decide) (by omega) u3 x3_1 (wrap64 (x5_6 - (wrap64 ((wrap64 (2 * x5_6)) * x6_10)))) [.int .i64 (wrap64 (x5_6 - (wrap64 ((wrap64 (2 * x5_6)) * x6_10))))] (fun _ => True) (fun _ => False) rfl rfl ?aP (fun _ hk => hk.elim) ?aF ?aO ?aB ?aS ?aL ?_;(case aP => exact rfl);(case aB => exact HB.out);(case aF => exact (fun _ _ => trivial));(case aO => exact (rU HO_3.out));(case aS => exact (below_size HB.out));(case aL => have:=LMc28.out;omega);intro v175 w29 ho hb hg hat;rw [← Ny174.out] at ho;replace BK159:=Aside0.mk (blk_grown (g:=gb159) (o:=.cells #[.int .i64 a0_0,.int .i64 a0_1,.int .i64 a0_2] 25 (0,0)) (blkU BK159.out) hg (Kd.R_ne HO_3.out BK159.out (by decide)));replace HB:=Aside0.mk (hb);have HO176:=Aside0.mk (ho);clear HO_3 ho hb hg hat))
               go_roundg kj17;case measure => have:=HK1.out;have:=HJ6.out;have:=HJ10.out;have:=HJ17.out;omega
               case rel => exact ⟨(y174),(wrap64 (x9_1 + 1)),(by rfl),H',⟨by have:=HK1.out;have:=HJ6.out;have:=HJ10.out;have:=HJ17.out;omega⟩,⟨rU HO176.out⟩,⟨blkU BK159.out⟩,⟨HB.out⟩⟩
              ·
               rw [if_neg c28] at H;exact absurd H (by simp)
             ·
              rw [if_neg c27] at H;have c27b0 : (a0_0 == 5) = false:=beq_eq_false_iff_ne.mpr c27;have c27b1 : (a0_0 != 5) = true:=bne_iff_ne.mpr c27;by_cases c30 : x3_1.length < 17592186044416
              ·
               rw [if_pos c30] at H;have LMc30:=Aside0.mk c30;clear c30;obtain ⟨y177,hy177⟩ : ∃ y_ : List Int,y_ = (x3_1 ++ [(wrap64 (x5_6 * x6_10))]):=⟨_,rfl⟩
               replace H : (impl_weightsOf.l0 kj17 y177 (wrap64 (x9_1 + 1)) a0_0 a0_1 a0_2) = some r:=by (rw [hy177];with_reducible exact H)
               have Ny177:=Aside0.mk hy177;clear hy177;have H':=Aside0.mk H;clear H;go_wp2_with (((with_reducible refine gate_builtin (b:=.append) (xs:=#[.tmp 53,.tmp 55]) rfl ?_);at_builtin;refine Kd.R_append (Kd.int .i64) (w0:=w) w.heap.size rfl (.tmp 53) (.tmp 55) 29 3 (.int .i64 0) 8 rfl Try.underlying29 info3 rfl (by decide) (by omega) u3 x3_1 (wrap64 (x5_6 * x6_10)) [.int .i64 (wrap64 (x5_6 * x6_10))] (fun _ => True) (fun _ => False) rfl rfl ?aP (fun _ hk => hk.elim) ?aF ?aO ?aB ?aS ?aL ?_;(case aP => exact rfl);(case aB => exact HB.out);(case aF => exact (fun _ _ => trivial));(case aO => exact (rU HO_3.out));(case aS => exact (below_size HB.out));(case aL => have:=LMc30.out;omega);intro v178 w31 ho hb hg hat;rw [← Ny177.out] at ho;replace BK159:=Aside0.mk (blk_grown (g:=gb159) (o:=.cells #[.int .i64 a0_0,.int .i64 a0_1,.int .i64 a0_2] 25 (0,0)) (blkU BK159.out) hg (Kd.R_ne HO_3.out BK159.out (by decide)));replace HB:=Aside0.mk (hb);have HO179:=Aside0.mk (ho);clear HO_3 ho hb hg hat))
               go_roundg kj17;case measure => have:=HK1.out;have:=HJ6.out;have:=HJ10.out;have:=HJ17.out;omega
               case rel => exact ⟨(y177),(wrap64 (x9_1 + 1)),(by rfl),H',⟨by have:=HK1.out;have:=HJ6.out;have:=HJ10.out;have:=HJ17.out;omega⟩,⟨rU HO179.out⟩,⟨blkU BK159.out⟩,⟨HB.out⟩⟩
              ·
               rw [if_neg c30] at H;exact absurd H (by simp)
   ·
    rw [if_neg c5] at H;have c5b0 : decide (x9_1 < 4) = false:=decide_eq_false c5;clear c5;obtain rfl:=Option.some.inj H;go_wp2;go_ret;exact ⟨_,by rfl,rU HO_3.out,HB.out⟩

end Go.Proofs.Ytmkfmbjemdbigaa.PA
