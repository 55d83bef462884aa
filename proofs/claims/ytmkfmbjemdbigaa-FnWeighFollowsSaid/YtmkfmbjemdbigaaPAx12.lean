/- The machine side of functions of this seat, written by the session's program myprint.py: for each Go function a Lean function and the proof that the call answers just it. -/
import Derived.Test.YtmkfmbjemdbigaaPAx0
import Derived.Test.YtmkfmbjemdbigaaUp
import Derived.Test.YtmkfmbjemdbigaaPAx6
import Derived.Test.YtmkfmbjemdbigaaPAx11
namespace Go.Proofs.Ytmkfmbjemdbigaa.PA
open Go.RowKit Go.Proofs.YtmkfmbjemdbigaaW.PrintWords Go.Proofs.YtmkfmbjemdbigaaW.PrintLast Go.Proofs.YtmkfmbjemdbigaaW.PrintMore
attribute [local go_sem] max2_int min2_int max_two min_two max_three min_three max_four min_four   -- for this text's walks alone
set_option linter.unusedVariables false
set_option linter.unusedSimpArgs false

/-! ### spec_l6Dot: function 51 -/
def spec_l6Dot.l0 : Nat → List Int → List Int → Int → Int → Option (Int)
 | 0,_,_,_,_ => none
 | k + 1,x0,x1,x5,x6 => if x6 < (x0.length : Int) then (if 0 ≤ x6 then (if x6 < (x1.length : Int) then (spec_l6Dot.l0 k x0 x1 (wrap64 (x5 + (wrap64 ((rd x0 x6) * (rd x1 x6))))) (wrap64 (x6 + 1))) else (none)) else (none)) else (some x5)
def spec_l6Dot.f (k : Nat) (l0 : List Int) (l1 : List Int) : Option (Int):=spec_l6Dot.l0 k l0 l1 0 0
theorem spec_l6Dot.mono_l : ∀ k,(∀ y0 y1 y2 y3,LeO (spec_l6Dot.l0 k y0 y1 y2 y3) (spec_l6Dot.l0 (k + 1) y0 y1 y2 y3))
 | 0 => fun _ _ _ _ r h => by simp [spec_l6Dot.l0] at h
 | k + 1 => by
  have ih0:=spec_l6Dot.mono_l k
  ·
   intro y0 y1 y2 y3;unfold spec_l6Dot.l0;repeat' first
   | (with_reducible exact ih0 _ _ _ _)
   | (with_reducible exact LeO.refl _)
   | (with_reducible refine LeO.ite ?_ ?_)
theorem spec_l6Dot.mono : ∀ a0 a1 k,LeO (spec_l6Dot.f k a0 a1) (spec_l6Dot.f (k + 1) a0 a1):=by
 intro a0 a1 k;have ih0:=spec_l6Dot.mono_l k;unfold spec_l6Dot.f;repeat' first
   | (with_reducible exact ih0 _ _ _ _)
set_option maxHeartbeats 8000000 in
set_option maxRecDepth 100000 in
theorem spec_l6Dot.calls (k : Nat) (A0 : Option Addr) (c0 : Nat) (l0 : List Int) (A1 : Option Addr) (c1 : Nat) (l1 : List Int) (r : Int) (w : World) (hr0 : Kd.C (Kd.int .i64) w A0 l0.length l0) (hc0 : l0.length ≤ c0) (hr1 : Kd.C (Kd.int .i64) w A1 l1.length l1) (hc1 : l1.length ≤ c1) (h : spec_l6Dot.f k l0 l1 = some r) :
  Calls Try.prog 51 #[.slice A0 l0.length c0,.slice A1 l1.length c1] w fun e w' => e = .returned (.int .i64 r) ∧ Drawn0 w w':=by
 have HR0:=Aside0.mk hr0;have HC0:=Aside0.mk hc0;clear hr0 hc0;have HR1:=Aside0.mk hr1;have HC1:=Aside0.mk hc1;clear hr1 hc1;have H : (spec_l6Dot.l0 k l0 l1 0 0) = some r:=h;clear h;have H':=Aside0.mk H;clear H;go_enter Try.func51,Try.ntmps51;go_wp2;repeat (go_quiet (fail))
 go_loopg [5,6] k (fun kq v5 v6 w' => ∃ (x5_1 : Int) (x6_1 : Int),v5 = .int .i64 x5_1 ∧ v6 = .int .i64 x6_1 ∧ Aside0 (spec_l6Dot.l0 kq l0 l1 x5_1 x6_1 = some r) ∧ Aside0 (kq ≤ k) ∧ Drawn0 w w');case atStart => exact ⟨(0),(0),(by rfl),(by rfl),H',⟨Nat.le_refl _⟩,by repeat (exact Drawn0.refl _)⟩
 case round =>
  clear H';obtain ⟨x5_1,x6_1,rfl,rfl,HA,HK1,⟨m1,rfl⟩⟩:=hrel;cases gk with
  | zero => exact absurd HA.out (by simp [spec_l6Dot.l0])
  | succ k1 =>
   have H:=HA.out;clear HA;simp only [spec_l6Dot.l0] at H;by_cases c3 : x6_1 < (l0.length : Int)
   ·
    rw [if_pos c3] at H;have c3b0 : decide (x6_1 < (l0.length : Int)) = true:=decide_eq_true c3;clear c3;by_cases c4 : 0 ≤ x6_1
    ·
     rw [if_pos c4] at H;have c4b0 : decide (0 ≤ x6_1) = true:=decide_eq_true c4;clear c4;by_cases c5 : x6_1 < (l1.length : Int)
     ·
      rw [if_pos c5] at H;have c5b0 : decide (x6_1 < (l1.length : Int)) = true:=decide_eq_true c5;clear c5;have H':=Aside0.mk H;clear H;have p212 : 0 ≤ (x6_1 : Int):=of_decide_eq_true (by (with_reducible assumption));have q212 : x6_1 < (l0.length : Int):=of_decide_eq_true (by (with_reducible assumption));obtain ⟨ad212,e212,hx212_0⟩:=Kd.at_int HR0.out x6_1 p212 q212;cases e212;replace p212:=eq_true p212;replace q212:=eq_true q212;have p213 : 0 ≤ (x6_1 : Int):=of_decide_eq_true (by (with_reducible assumption));have q213 : x6_1 < (l1.length : Int):=of_decide_eq_true (by (with_reducible assumption));obtain ⟨ad213,e213,hx213_0⟩:=Kd.at_int HR1.out x6_1 p213 q213;cases e213;replace p213:=eq_true p213;replace q213:=eq_true q213;go_wp2;repeat (go_quiet (fail);try go_wp2)
      go_roundg k1;case measure => have:=HK1.out;omega
      case rel => exact ⟨(wrap64 (x5_1 + (wrap64 ((rd l0 x6_1) * (rd l1 x6_1))))),(wrap64 (x6_1 + 1)),(by rfl),(by rfl),H',⟨by have:=HK1.out;omega⟩,by repeat (first|exact Drawn0.refl _|apply Drawn0.step)⟩
     ·
      rw [if_neg c5] at H;exact absurd H (by simp)
    ·
     rw [if_neg c4] at H;exact absurd H (by simp)
   ·
    rw [if_neg c3] at H;have c3b0 : decide (x6_1 < (l0.length : Int)) = false:=decide_eq_false c3;clear c3;obtain rfl:=Option.some.inj H;go_wp2;repeat (go_quiet (fail))
    go_ret;exact ⟨by rfl,by repeat (first|exact Drawn0.refl _|apply Drawn0.step)⟩

/-! ### spec_WeighSo: function 36 -/
def spec_WeighSo.j0 : Nat → List Int → Bool → Int → Int → Int → Option (Bool)
 | 0,_,_,_,_,_ => none
 | k + 1,x0,x15,x215000,x215001,x215002 => if x15 = true then (some false) else ((spec_l6Row.f k x215000 x215001 x215002).bind fun bt217 => ((spec_l6Dot.f k bt217.1 x0).bind fun t221 => (if t221 > 0 then (some true) else (if t221 = 0 then (some (!bt217.2)) else (some false)))))
def spec_WeighSo.f (k : Nat) (l0 : List Int) (a1_0 : Int) (a1_1 : Int) (a1_2 : Int) : Option (Bool):=(spec_CountsOk.f k l0).bind fun t215 => (if t215 = true then ((spec_WeighOk.f a1_0 a1_1 a1_2).bind fun t216 => (spec_WeighSo.j0 k l0 (!t216) a1_0 a1_1 a1_2)) else (spec_WeighSo.j0 k l0 true a1_0 a1_1 a1_2))
theorem spec_WeighSo.mono_l : ∀ k,(∀ y0 y1 y2 y3 y4,LeO (spec_WeighSo.j0 k y0 y1 y2 y3 y4) (spec_WeighSo.j0 (k + 1) y0 y1 y2 y3 y4))
 | 0 => fun _ _ _ _ _ r h => by simp [spec_WeighSo.j0] at h
 | k + 1 => by
  have ih0:=spec_WeighSo.mono_l k
  ·
   intro y0 y1 y2 y3 y4;unfold spec_WeighSo.j0;repeat' first
   | (with_reducible exact spec_l6Dot.mono _ _ _)
   | (with_reducible exact spec_l6Row.mono _ _ _ _)
   | (with_reducible exact LeO.refl _)
   | (with_reducible refine LeO.ite ?_ ?_)
   | (with_reducible refine LeO.bind ?_ (fun _ => ?_))
theorem spec_WeighSo.mono : ∀ a0 a1 a2 a3 k,LeO (spec_WeighSo.f k a0 a1 a2 a3) (spec_WeighSo.f (k + 1) a0 a1 a2 a3):=by
 intro a0 a1 a2 a3 k;have ih0:=spec_WeighSo.mono_l k;unfold spec_WeighSo.f;repeat' first
   | (with_reducible exact ih0 _ _ _ _ _)
   | (with_reducible exact spec_CountsOk.mono _ _)
   | (with_reducible exact LeO.refl _)
   | (with_reducible refine LeO.ite ?_ ?_)
   | (with_reducible refine LeO.bind ?_ (fun _ => ?_))
set_option maxHeartbeats 8000000 in
set_option maxRecDepth 100000 in
theorem spec_WeighSo.calls (k : Nat) (A0 : Option Addr) (c0 : Nat) (l0 : List Int) (a1_0 : Int) (a1_1 : Int) (a1_2 : Int) (r : Bool) (w : World) (hr0 : Kd.C (Kd.int .i64) w A0 l0.length l0) (hc0 : l0.length ≤ c0) (h : spec_WeighSo.f k l0 a1_0 a1_1 a1_2 = some r) :
  Calls Try.prog 36 #[.slice A0 l0.length c0,.agg #[.int .i64 a1_0,.int .i64 a1_1,.int .i64 a1_2]] w fun e w' => e = .returned (.bool r) ∧ Below w.heap.size w w':=by
 have hu25:=Try.underlying25;have HR0:=Aside0.mk hr0;have HC0:=Aside0.mk hc0;clear hr0 hc0;have HB:=Aside0.mk (Below.refl w.heap.size w);have H : ((spec_CountsOk.f k l0).bind fun t215 => (if t215 = true then ((spec_WeighOk.f a1_0 a1_1 a1_2).bind fun t216 => (spec_WeighSo.j0 k l0 (!t216) a1_0 a1_1 a1_2)) else (spec_WeighSo.j0 k l0 true a1_0 a1_1 a1_2))) = some r:=h;clear h;have HC3:=Aside0.mk H;clear H;go_enter Try.func36,Try.ntmps36;go_upto_region 1 with (((with_reducible refine gate_dst (N:=3) rfl ?_);refine box_event ?hg (N:=3) ?hd (cs:=#[.int .i64 a1_0,.int .i64 a1_1,.int .i64 a1_2]) (t:=25) ?hr ?_;(case hd => rfl);(case hg => rfl);(case hr => go_simp;done);intro gb214 hg w4 hbox hb;have BK214:=Aside0.mk (hbox);have GW214:=Aside0.mk ((by rw [hg];exact (below_size (belU HB.out)) : w.heap.size ≤ gb214));have GE214:=Aside0.mk ((by rw [hg];exact (below_size (belU HB.out)) : w.heap.size ≤ gb214));replace HB:=Aside0.mk (below_step (belU HB.out) hb);clear hb hbox hg))
 go_cut [15] (fun v15 wc => ∃ (kq : Nat) (x15_2 : Bool),v15 = .bool x15_2 ∧ Aside0 (spec_WeighSo.j0 kq l0 x15_2 a1_0 a1_1 a1_2 = some r) ∧ Aside0 (kq ≤ k) ∧ Aside0 (wc.heap[gb214]? = some (.cells #[.int .i64 a1_0,.int .i64 a1_1,.int .i64 a1_2] 25 (0,0))) ∧ Aside0 (Below w.heap.size w wc));case first =>
  have H:=HC3.out;clear HC3;replace H:=Option.bind_eq_some_iff.mp H;obtain ⟨t215,A50,H⟩:=H;have A5:=Aside0.mk A50;clear A50;by_cases c6 : t215 = true
  ·
   subst c6;have H1 : ((spec_WeighOk.f a1_0 a1_1 a1_2).bind fun t216 => (spec_WeighSo.j0 k l0 (!t216) a1_0 a1_1 a1_2)) = some r:=by rw [if_pos rfl] at H;exact H
   clear H;have H:=H1;clear H1;replace H:=Option.bind_eq_some_iff.mp H;obtain ⟨t216,A70,H⟩:=H;have A7:=Aside0.mk A70;clear A70;have H':=Aside0.mk H;clear H;go_wp2_with (first|((with_reducible refine gate_callee (f:=8) rfl ?_);refine goesL_ (some 9) rfl rfl Try.func8 (by kernel_rfl) rfl #[.slice A0 l0.length c0] rfl (by (try simp only [List.map_toArray,List.map_cons,List.map_nil]);rfl) ?_;(with_reducible refine (spec_CountsOk.calls k _ _ l0 true _ ?side1 ?side2 A5.out).mono ?_);(case side1 => exact cU (Kd.C_below HR0.out HB.out));(case side2 => exact HC0.out);rintro e w' ⟨rfl,⟨nd,rfl⟩⟩;refine ⟨_,rfl,?_⟩;have hcz8_0 : w4.cell? ⟨gb214,0,none⟩ = some (.int .i64 a1_0):=(blk_cell BK214.out 0).trans rfl;have hcz8_1 : w4.cell? ⟨gb214,1,none⟩ = some (.int .i64 a1_1):=(blk_cell BK214.out 1).trans rfl;have hcz8_2 : w4.cell? ⟨gb214,2,none⟩ = some (.int .i64 a1_2):=(blk_cell BK214.out 2).trans rfl;have hfz8_0:=blk_frozen BK214.out 0;have hfz8_1:=blk_frozen BK214.out 1;have hfz8_2:=blk_frozen BK214.out 2)|(go_at_call 9;(with_reducible refine (spec_WeighOk.calls a1_0 a1_1 a1_2 t216 _ A7.out).mono ?_);rintro e w9 ⟨rfl,hb⟩;replace BK214:=Aside0.mk (blk_below (g:=gb214) (o:=.cells #[.int .i64 a1_0,.int .i64 a1_1,.int .i64 a1_2] 25 (0,0)) (blkU BK214.out) hb);replace HB:=Aside0.mk (below_step (by repeat (with_reducible first|exact HB.out|apply pw_below_drewN)) hb);(try clear hb)))
   go_meet;case rel => exact ⟨_,(!t216),(by rfl),H',⟨by omega⟩,⟨blkU BK214.out⟩,⟨HB.out⟩⟩
  ·
   replace c6:=Bool.eq_false_iff.mpr c6;subst c6;have H1 : (spec_WeighSo.j0 k l0 true a1_0 a1_1 a1_2) = some r:=by rw [if_neg (show ¬ (false = true) by decide)] at H;exact H
   clear H;have H:=H1;clear H1;have H':=Aside0.mk H;clear H;go_wp2_with (((with_reducible refine gate_callee (f:=8) rfl ?_);refine goesL_ (some 9) rfl rfl Try.func8 (by kernel_rfl) rfl #[.slice A0 l0.length c0] rfl (by (try simp only [List.map_toArray,List.map_cons,List.map_nil]);rfl) ?_;(with_reducible refine (spec_CountsOk.calls k _ _ l0 false _ ?side1 ?side2 A5.out).mono ?_);(case side1 => exact cU (Kd.C_below HR0.out HB.out));(case side2 => exact HC0.out);rintro e w' ⟨rfl,⟨nd,rfl⟩⟩;refine ⟨_,rfl,?_⟩))
   go_meet;case rel => exact ⟨_,(true),(by rfl),H',⟨by omega⟩,⟨blkU BK214.out⟩,⟨by repeat (with_reducible first|exact HB.out|apply pw_below_drewN)⟩⟩
 case rest =>
  clear HC3;obtain ⟨kq,x15_2,rfl,HA,HJ2,BK214,HB⟩:=hcut;cases kq with
  | zero => exact absurd HA.out (by simp [spec_WeighSo.j0])
  | succ kj2 =>
   have H:=HA.out;clear HA;simp only [spec_WeighSo.j0] at H;by_cases c10 : x15_2 = true
   ·
    subst c10;have H1 : (some false) = some r:=by rw [if_pos rfl] at H;exact H
    clear H;have H:=H1;clear H1;obtain rfl:=Option.some.inj H;go_wp2;go_ret;exact ⟨by rfl,HB.out⟩
   ·
    replace c10:=Bool.eq_false_iff.mpr c10;subst c10;have H1 : ((spec_l6Row.f kj2 a1_0 a1_1 a1_2).bind fun bt217 => ((spec_l6Dot.f kj2 bt217.1 l0).bind fun t221 => (if t221 > 0 then (some true) else (if t221 = 0 then (some (!bt217.2)) else (some false))))) = some r:=by rw [if_neg (show ¬ (false = true) by decide)] at H;exact H
    clear H;have H:=H1;clear H1;replace H:=Option.bind_eq_some_iff.mp H;obtain ⟨⟨t217,t220⟩,A110,H⟩:=H;have A11:=Aside0.mk A110;clear A110;replace H:=Option.bind_eq_some_iff.mp H;obtain ⟨t221,A120,H⟩:=H;have A12:=Aside0.mk A120;clear A120;by_cases c13 : t221 > 0
    ·
     rw [if_pos c13] at H;have c13b0 : decide (0 < t221) = true:=decide_eq_true c13;clear c13;obtain rfl:=Option.some.inj H;have hcz14_0 : wc.cell? ⟨gb214,0,none⟩ = some (.int .i64 a1_0):=(blk_cell BK214.out 0).trans rfl;have hcz14_1 : wc.cell? ⟨gb214,1,none⟩ = some (.int .i64 a1_1):=(blk_cell BK214.out 1).trans rfl;have hcz14_2 : wc.cell? ⟨gb214,2,none⟩ = some (.int .i64 a1_2):=(blk_cell BK214.out 2).trans rfl;have hfz14_0:=blk_frozen BK214.out 0;have hfz14_1:=blk_frozen BK214.out 1;have hfz14_2:=blk_frozen BK214.out 2;go_wp2_with (first|((with_reducible refine gate_callee (f:=48) rfl ?_);refine goesL_ (some 18) rfl rfl Try.func48 (by kernel_rfl) rfl #[.agg #[.int .i64 a1_0,.int .i64 a1_1,.int .i64 a1_2]] rfl (by (try simp only [List.map_toArray,List.map_cons,List.map_nil]);rfl) ?_;(with_reducible refine (spec_l6Row.calls kj2 a1_0 a1_1 a1_2 t217 t220 _ A11.out).mono ?_);rintro e w15 ⟨v218,rfl,ho0,hb⟩;refine ⟨_,rfl,?_⟩;have HO219:=Aside0.mk (Kd.R_lower ho0 (below_size HB.out));replace BK214:=Aside0.mk (blk_below (g:=gb214) (o:=.cells #[.int .i64 a1_0,.int .i64 a1_1,.int .i64 a1_2] 25 (0,0)) (blkU BK214.out) hb);replace HB:=Aside0.mk (below_step HB.out hb);(try clear hb);(try clear ho0);obtain ⟨Ao16,co16,eo16⟩:=Kd.R_slice HO219.out;subst eo16)|((with_reducible refine gate_callee (f:=51) rfl ?_);refine goesL_ (some 23) rfl rfl Try.func51 (by kernel_rfl) rfl #[.slice Ao16 t217.length co16,.slice A0 l0.length c0] rfl (by (try simp only [List.map_toArray,List.map_cons,List.map_nil]);rfl) ?_;(with_reducible refine (spec_l6Dot.calls kj2 _ _ t217 _ _ l0 t221 _ ?side1 ?side2 ?side3 ?side4 A12.out).mono ?_);(case side1 => exact cU (Kd.R_reads' HO219.out).2.2);(case side2 => exact (Kd.R_reads' HO219.out).2.1);(case side3 => exact cU (Kd.C_below HR0.out HB.out));(case side4 => exact HC0.out);rintro e w' ⟨rfl,⟨nd,rfl⟩⟩;refine ⟨_,rfl,?_⟩))
     go_ret;exact ⟨by rfl,by repeat (with_reducible first|exact HB.out|apply pw_below_drewN)⟩
    ·
     rw [if_neg c13] at H;have c13b0 : decide (0 < t221) = false:=decide_eq_false c13;clear c13;by_cases c17 : t221 = 0
     ·
      rw [if_pos c17] at H;have c17b0 : (t221 == 0) = true:=beq_iff_eq.mpr c17;have c17b1 : (t221 != 0) = false:=bne_eq_false_iff_eq.mpr c17;clear c17;obtain rfl:=Option.some.inj H;have hcz18_0 : wc.cell? ⟨gb214,0,none⟩ = some (.int .i64 a1_0):=(blk_cell BK214.out 0).trans rfl;have hcz18_1 : wc.cell? ⟨gb214,1,none⟩ = some (.int .i64 a1_1):=(blk_cell BK214.out 1).trans rfl;have hcz18_2 : wc.cell? ⟨gb214,2,none⟩ = some (.int .i64 a1_2):=(blk_cell BK214.out 2).trans rfl;have hfz18_0:=blk_frozen BK214.out 0;have hfz18_1:=blk_frozen BK214.out 1;have hfz18_2:=blk_frozen BK214.out 2;go_wp2_with (first|((with_reducible refine gate_callee (f:=48) rfl ?_);refine goesL_ (some 18) rfl rfl Try.func48 (by kernel_rfl) rfl #[.agg #[.int .i64 a1_0,.int .i64 a1_1,.int .i64 a1_2]] rfl (by (try simp only [List.map_toArray,List.map_cons,List.map_nil]);rfl) ?_;(with_reducible refine (spec_l6Row.calls kj2 a1_0 a1_1 a1_2 t217 t220 _ A11.out).mono ?_);rintro e w19 ⟨v218,rfl,ho0,hb⟩;refine ⟨_,rfl,?_⟩;have HO219:=Aside0.mk (Kd.R_lower ho0 (below_size HB.out));replace BK214:=Aside0.mk (blk_below (g:=gb214) (o:=.cells #[.int .i64 a1_0,.int .i64 a1_1,.int .i64 a1_2] 25 (0,0)) (blkU BK214.out) hb);replace HB:=Aside0.mk (below_step HB.out hb);(try clear hb);(try clear ho0);obtain ⟨Ao20,co20,eo20⟩:=Kd.R_slice HO219.out;subst eo20)|((with_reducible refine gate_callee (f:=51) rfl ?_);refine goesL_ (some 23) rfl rfl Try.func51 (by kernel_rfl) rfl #[.slice Ao20 t217.length co20,.slice A0 l0.length c0] rfl (by (try simp only [List.map_toArray,List.map_cons,List.map_nil]);rfl) ?_;(with_reducible refine (spec_l6Dot.calls kj2 _ _ t217 _ _ l0 t221 _ ?side1 ?side2 ?side3 ?side4 A12.out).mono ?_);(case side1 => exact cU (Kd.R_reads' HO219.out).2.2);(case side2 => exact (Kd.R_reads' HO219.out).2.1);(case side3 => exact cU (Kd.C_below HR0.out HB.out));(case side4 => exact HC0.out);rintro e w' ⟨rfl,⟨nd,rfl⟩⟩;refine ⟨_,rfl,?_⟩))
      go_ret;exact ⟨by rfl,by repeat (with_reducible first|exact HB.out|apply pw_below_drewN)⟩
     ·
      rw [if_neg c17] at H;have c17b0 : (t221 == 0) = false:=beq_eq_false_iff_ne.mpr c17;have c17b1 : (t221 != 0) = true:=bne_iff_ne.mpr c17;obtain rfl:=Option.some.inj H;have hcz21_0 : wc.cell? ⟨gb214,0,none⟩ = some (.int .i64 a1_0):=(blk_cell BK214.out 0).trans rfl;have hcz21_1 : wc.cell? ⟨gb214,1,none⟩ = some (.int .i64 a1_1):=(blk_cell BK214.out 1).trans rfl;have hcz21_2 : wc.cell? ⟨gb214,2,none⟩ = some (.int .i64 a1_2):=(blk_cell BK214.out 2).trans rfl;have hfz21_0:=blk_frozen BK214.out 0;have hfz21_1:=blk_frozen BK214.out 1;have hfz21_2:=blk_frozen BK214.out 2;go_wp2_with (first|((with_reducible refine gate_callee (f:=48) rfl ?_);refine goesL_ (some 18) rfl rfl Try.func48 (by kernel_rfl) rfl #[.agg #[.int .i64 a1_0,.int .i64 a1_1,.int .i64 a1_2]] rfl (by (try simp only [List.map_toArray,List.map_cons,List.map_nil]);rfl) ?_;(with_reducible refine (spec_l6Row.calls kj2 a1_0 a1_1 a1_2 t217 t220 _ A11.out).mono ?_);rintro e w22 ⟨v218,rfl,ho0,hb⟩;refine ⟨_,rfl,?_⟩;have HO219:=Aside0.mk (Kd.R_lower ho0 (below_size HB.out));replace BK214:=Aside0.mk (blk_below (g:=gb214) (o:=.cells #[.int .i64 a1_0,.int .i64 a1_1,.int .i64 a1_2] 25 (0,0)) (blkU BK214.out) hb);replace HB:=Aside0.mk (below_step HB.out hb);(try clear hb);(try clear ho0);obtain ⟨Ao23,co23,eo23⟩:=Kd.R_slice HO219.out;subst eo23)|((with_reducible refine gate_callee (f:=51) rfl ?_);refine goesL_ (some 23) rfl rfl Try.func51 (by kernel_rfl) rfl #[.slice Ao23 t217.length co23,.slice A0 l0.length c0] rfl (by (try simp only [List.map_toArray,List.map_cons,List.map_nil]);rfl) ?_;(with_reducible refine (spec_l6Dot.calls kj2 _ _ t217 _ _ l0 t221 _ ?side1 ?side2 ?side3 ?side4 A12.out).mono ?_);(case side1 => exact cU (Kd.R_reads' HO219.out).2.2);(case side2 => exact (Kd.R_reads' HO219.out).2.1);(case side3 => exact cU (Kd.C_below HR0.out HB.out));(case side4 => exact HC0.out);rintro e w' ⟨rfl,⟨nd,rfl⟩⟩;refine ⟨_,rfl,?_⟩))
      go_ret;exact ⟨by rfl,by repeat (with_reducible first|exact HB.out|apply pw_below_drewN)⟩

end Go.Proofs.Ytmkfmbjemdbigaa.PA
