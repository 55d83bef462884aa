/- The machine side of functions of this seat, written by the session's program myprint.py: for each Go function a Lean function and the proof that the call answers just it. -/
import Derived.Test.YtmkfmbjemdbigaaPAx0
import Derived.Test.YtmkfmbjemdbigaaUp
namespace Go.Proofs.Ytmkfmbjemdbigaa.PA
open Go.RowKit Go.Proofs.YtmkfmbjemdbigaaW.PrintWords Go.Proofs.YtmkfmbjemdbigaaW.PrintLast Go.Proofs.YtmkfmbjemdbigaaW.PrintMore
attribute [local go_sem] max2_int min2_int max_two min_two max_three min_three max_four min_four   -- for this text's walks alone
set_option linter.unusedVariables false
set_option linter.unusedSimpArgs false

/-! ### impl_isWeigh: function 18 -/
def impl_isWeigh.f (a0_0 : Int) (a0_1 : Int) (a0_2 : Int) : Option (Bool):=if a0_0 ≥ 0 then (if a0_0 ≤ 5 then (if a0_1 ≥ 0 then (if a0_1 ≤ 3 then (if a0_2 ≥ 0 then (some (decide (a0_2 ≤ 3))) else (some false)) else (some false)) else (some false)) else (some false)) else (some false)
set_option maxHeartbeats 8000000 in
set_option maxRecDepth 100000 in
theorem impl_isWeigh.calls (a0_0 : Int) (a0_1 : Int) (a0_2 : Int) (r : Bool) (w : World) (h : impl_isWeigh.f a0_0 a0_1 a0_2 = some r) :
  Calls Try.prog 18 #[.agg #[.int .i64 a0_0,.int .i64 a0_1,.int .i64 a0_2]] w fun e w' => e = .returned (.bool r) ∧ Below w.heap.size w w':=by
 have hu25:=Try.underlying25;have HB:=Aside0.mk (Below.refl w.heap.size w);have H : (if a0_0 ≥ 0 then (if a0_0 ≤ 5 then (if a0_1 ≥ 0 then (if a0_1 ≤ 3 then (if a0_2 ≥ 0 then (some (decide (a0_2 ≤ 3))) else (some false)) else (some false)) else (some false)) else (some false)) else (some false)) = some r:=h;clear h;by_cases c2 : a0_0 ≥ 0
 ·
  rw [if_pos c2] at H;have c2b0 : decide (0 ≤ a0_0) = true:=decide_eq_true c2;clear c2;by_cases c3 : a0_0 ≤ 5
  ·
   rw [if_pos c3] at H;have c3b0 : decide (a0_0 ≤ 5) = true:=decide_eq_true c3;clear c3;by_cases c4 : a0_1 ≥ 0
   ·
    rw [if_pos c4] at H;have c4b0 : decide (0 ≤ a0_1) = true:=decide_eq_true c4;clear c4;by_cases c5 : a0_1 ≤ 3
    ·
     rw [if_pos c5] at H;have c5b0 : decide (a0_1 ≤ 3) = true:=decide_eq_true c5;clear c5;by_cases c6 : a0_2 ≥ 0
     ·
      rw [if_pos c6] at H;have c6b0 : decide (0 ≤ a0_2) = true:=decide_eq_true c6;clear c6;obtain rfl:=Option.some.inj H;go_enter Try.func18,Try.ntmps18;go_wp2_with (((with_reducible refine gate_dst (N:=1) rfl ?_);refine box_event ?hg (N:=1) ?hd (cs:=#[.int .i64 a0_0,.int .i64 a0_1,.int .i64 a0_2]) (t:=25) ?hr ?_;(case hd => rfl);(case hg => rfl);(case hr => go_simp;done);intro gb150 hg w7 hbox hb;have BK150:=Aside0.mk (hbox);have GW150:=Aside0.mk ((by rw [hg];exact (below_size (belU HB.out)) : w.heap.size ≤ gb150));have GE150:=Aside0.mk ((by rw [hg];exact (below_size (belU HB.out)) : w.heap.size ≤ gb150));replace HB:=Aside0.mk (below_step (belU HB.out) hb);clear hb hbox hg;have hcz8_0 : w7.cell? ⟨gb150,0,none⟩ = some (.int .i64 a0_0):=(blk_cell BK150.out 0).trans rfl;have hcz8_1 : w7.cell? ⟨gb150,1,none⟩ = some (.int .i64 a0_1):=(blk_cell BK150.out 1).trans rfl;have hcz8_2 : w7.cell? ⟨gb150,2,none⟩ = some (.int .i64 a0_2):=(blk_cell BK150.out 2).trans rfl;have hfz8_0:=blk_frozen BK150.out 0;have hfz8_1:=blk_frozen BK150.out 1;have hfz8_2:=blk_frozen BK150.out 2))
      go_ret;exact ⟨by rfl,HB.out⟩
     ·
      rw [if_neg c6] at H;have c6b0 : decide (0 ≤ a0_2) = false:=decide_eq_false c6;clear c6;obtain rfl:=Option.some.inj H;go_enter Try.func18,Try.ntmps18;go_wp2_with (((with_reducible refine gate_dst (N:=1) rfl ?_);refine box_event ?hg (N:=1) ?hd (cs:=#[.int .i64 a0_0,.int .i64 a0_1,.int .i64 a0_2]) (t:=25) ?hr ?_;(case hd => rfl);(case hg => rfl);(case hr => go_simp;done);intro gb150 hg w9 hbox hb;have BK150:=Aside0.mk (hbox);have GW150:=Aside0.mk ((by rw [hg];exact (below_size (belU HB.out)) : w.heap.size ≤ gb150));have GE150:=Aside0.mk ((by rw [hg];exact (below_size (belU HB.out)) : w.heap.size ≤ gb150));replace HB:=Aside0.mk (below_step (belU HB.out) hb);clear hb hbox hg;have hcz10_0 : w9.cell? ⟨gb150,0,none⟩ = some (.int .i64 a0_0):=(blk_cell BK150.out 0).trans rfl;have hcz10_1 : w9.cell? ⟨gb150,1,none⟩ = some (.int .i64 a0_1):=(blk_cell BK150.out 1).trans rfl;have hcz10_2 : w9.cell? ⟨gb150,2,none⟩ = some (.int .i64 a0_2):=(blk_cell BK150.out 2).trans rfl;have hfz10_0:=blk_frozen BK150.out 0;have hfz10_1:=blk_frozen BK150.out 1;have hfz10_2:=blk_frozen BK150.out 2))
      go_ret;exact ⟨by rfl,HB.out⟩
    ·
     rw [if_neg c5] at H;have c5b0 : decide (a0_1 ≤ 3) = false:=decide_eq_false c5;clear c5;obtain rfl:=Option.some.inj H;go_enter Try.func18,Try.ntmps18;go_wp2_with (((with_reducible refine gate_dst (N:=1) rfl ?_);refine box_event ?hg (N:=1) ?hd (cs:=#[.int .i64 a0_0,.int .i64 a0_1,.int .i64 a0_2]) (t:=25) ?hr ?_;(case hd => rfl);(case hg => rfl);(case hr => go_simp;done);intro gb150 hg w11 hbox hb;have BK150:=Aside0.mk (hbox);have GW150:=Aside0.mk ((by rw [hg];exact (below_size (belU HB.out)) : w.heap.size ≤ gb150));have GE150:=Aside0.mk ((by rw [hg];exact (below_size (belU HB.out)) : w.heap.size ≤ gb150));replace HB:=Aside0.mk (below_step (belU HB.out) hb);clear hb hbox hg;have hcz12_0 : w11.cell? ⟨gb150,0,none⟩ = some (.int .i64 a0_0):=(blk_cell BK150.out 0).trans rfl;have hcz12_1 : w11.cell? ⟨gb150,1,none⟩ = some (.int .i64 a0_1):=(blk_cell BK150.out 1).trans rfl;have hcz12_2 : w11.cell? ⟨gb150,2,none⟩ = some (.int .i64 a0_2):=(blk_cell BK150.out 2).trans rfl;have hfz12_0:=blk_frozen BK150.out 0;have hfz12_1:=blk_frozen BK150.out 1;have hfz12_2:=blk_frozen BK150.out 2))
     go_ret;exact ⟨by rfl,HB.out⟩
   ·
    rw [if_neg c4] at H;have c4b0 : decide (0 ≤ a0_1) = false:=decide_eq_false c4;clear c4;obtain rfl:=Option.some.inj H;go_enter Try.func18,Try.ntmps18;go_wp2_with (((with_reducible refine gate_dst (N:=1) rfl ?_);refine box_event ?hg (N:=1) ?hd (cs:=#[.int .i64 a0_0,.int .i64 a0_1,.int .i64 a0_2]) (t:=25) ?hr ?_;(case hd => rfl);(case hg => rfl);(case hr => go_simp;done);intro gb150 hg w13 hbox hb;have BK150:=Aside0.mk (hbox);have GW150:=Aside0.mk ((by rw [hg];exact (below_size (belU HB.out)) : w.heap.size ≤ gb150));have GE150:=Aside0.mk ((by rw [hg];exact (below_size (belU HB.out)) : w.heap.size ≤ gb150));replace HB:=Aside0.mk (below_step (belU HB.out) hb);clear hb hbox hg;have hcz14_0 : w13.cell? ⟨gb150,0,none⟩ = some (.int .i64 a0_0):=(blk_cell BK150.out 0).trans rfl;have hcz14_1 : w13.cell? ⟨gb150,1,none⟩ = some (.int .i64 a0_1):=(blk_cell BK150.out 1).trans rfl;have hcz14_2 : w13.cell? ⟨gb150,2,none⟩ = some (.int .i64 a0_2):=(blk_cell BK150.out 2).trans rfl;have hfz14_0:=blk_frozen BK150.out 0;have hfz14_1:=blk_frozen BK150.out 1;have hfz14_2:=blk_frozen BK150.out 2))
    go_ret;exact ⟨by rfl,HB.out⟩
  ·
   rw [if_neg c3] at H;have c3b0 : decide (a0_0 ≤ 5) = false:=decide_eq_false c3;clear c3;obtain rfl:=Option.some.inj H;go_enter Try.func18,Try.ntmps18;go_wp2_with (((with_reducible refine gate_dst (N:=1) rfl ?_);refine box_event ?hg (N:=1) ?hd (cs:=#[.int .i64 a0_0,.int .i64 a0_1,.int .i64 a0_2]) (t:=25) ?hr ?_;(case hd => rfl);(case hg => rfl);(case hr => go_simp;done);intro gb150 hg w15 hbox hb;have BK150:=Aside0.mk (hbox);have GW150:=Aside0.mk ((by rw [hg];exact (below_size (belU HB.out)) : w.heap.size ≤ gb150));have GE150:=Aside0.mk ((by rw [hg];exact (below_size (belU HB.out)) : w.heap.size ≤ gb150));replace HB:=Aside0.mk (below_step (belU HB.out) hb);clear hb hbox hg;have hcz16_0 : w15.cell? ⟨gb150,0,none⟩ = some (.int .i64 a0_0):=(blk_cell BK150.out 0).trans rfl;have hcz16_1 : w15.cell? ⟨gb150,1,none⟩ = some (.int .i64 a0_1):=(blk_cell BK150.out 1).trans rfl;have hcz16_2 : w15.cell? ⟨gb150,2,none⟩ = some (.int .i64 a0_2):=(blk_cell BK150.out 2).trans rfl;have hfz16_0:=blk_frozen BK150.out 0;have hfz16_1:=blk_frozen BK150.out 1;have hfz16_2:=blk_frozen BK150.out 2))
   go_ret;exact ⟨by rfl,HB.out⟩
 ·
  rw [if_neg c2] at H;have c2b0 : decide (0 ≤ a0_0) = false:=decide_eq_false c2;clear c2;obtain rfl:=Option.some.inj H;go_enter Try.func18,Try.ntmps18;go_wp2_with (((with_reducible refine gate_dst (N:=1) rfl ?_);refine box_event ?hg (N:=1) ?hd (cs:=#[.int .i64 a0_0,.int .i64 a0_1,.int .i64 a0_2]) (t:=25) ?hr ?_;(case hd => rfl);(case hg => rfl);(case hr => go_simp;done);intro gb150 hg w17 hbox hb;have BK150:=Aside0.mk (hbox);have GW150:=Aside0.mk ((by rw [hg];exact (below_size (belU HB.out)) : w.heap.size ≤ gb150));have GE150:=Aside0.mk ((by rw [hg];exact (below_size (belU HB.out)) : w.heap.size ≤ gb150));replace HB:=Aside0.mk (below_step (belU HB.out) hb);clear hb hbox hg;have hcz18_0 : w17.cell? ⟨gb150,0,none⟩ = some (.int .i64 a0_0):=(blk_cell BK150.out 0).trans rfl;have hcz18_1 : w17.cell? ⟨gb150,1,none⟩ = some (.int .i64 a0_1):=(blk_cell BK150.out 1).trans rfl;have hcz18_2 : w17.cell? ⟨gb150,2,none⟩ = some (.int .i64 a0_2):=(blk_cell BK150.out 2).trans rfl;have hfz18_0:=blk_frozen BK150.out 0;have hfz18_1:=blk_frozen BK150.out 1;have hfz18_2:=blk_frozen BK150.out 2))
  go_ret;exact ⟨by rfl,HB.out⟩

/-! ### spec_l1In: function 23 -/
def spec_l1In.f (a0 : Int) (a1 : Int) (a2 : Int) : Option (Bool):=if a0 ≥ a1 then (some (decide (a0 ≤ a2))) else (some false)
set_option maxHeartbeats 8000000 in
set_option maxRecDepth 100000 in
theorem spec_l1In.calls (a0 : Int) (a1 : Int) (a2 : Int) (r : Bool) (w : World) (h : spec_l1In.f a0 a1 a2 = some r) :
  Calls Try.prog 23 #[.int .i64 a0,.int .i64 a1,.int .i64 a2] w fun e w' => e = .returned (.bool r) ∧ Drawn0 w w':=by
 have H : (if a0 ≥ a1 then (some (decide (a0 ≤ a2))) else (some false)) = some r:=h;clear h;by_cases c4 : a0 ≥ a1
 ·
  rw [if_pos c4] at H;have c4b0 : decide (a1 ≤ a0) = true:=decide_eq_true c4;clear c4;obtain rfl:=Option.some.inj H;go_enter Try.func23,Try.ntmps23;go_wp2;go_ret;exact ⟨by rfl,by repeat (exact Drawn0.refl _)⟩
 ·
  rw [if_neg c4] at H;have c4b0 : decide (a1 ≤ a0) = false:=decide_eq_false c4;clear c4;obtain rfl:=Option.some.inj H;go_enter Try.func23,Try.ntmps23;go_wp2;go_ret;exact ⟨by rfl,by repeat (exact Drawn0.refl _)⟩

/-! ### spec_CountsOk: function 8 -/
def spec_CountsOk.l0 : Nat → List Int → Int → Option (Bool)
 | 0,_,_ => none
 | k + 1,x0,x3 => if x3 < (x0.length : Int) then (if 0 ≤ x3 then ((spec_l1In.f (rd x0 x3) 0 99999).bind fun t152 => (if t152 = true then (spec_CountsOk.l0 k x0 (wrap64 (x3 + 1))) else (some false))) else (none)) else (some ((x0.length : Int) == 4))
def spec_CountsOk.f (k : Nat) (l0 : List Int) : Option (Bool):=spec_CountsOk.l0 k l0 0
theorem spec_CountsOk.mono_l : ∀ k,(∀ y0 y1,LeO (spec_CountsOk.l0 k y0 y1) (spec_CountsOk.l0 (k + 1) y0 y1))
 | 0 => fun _ _ r h => by simp [spec_CountsOk.l0] at h
 | k + 1 => by
  have ih0:=spec_CountsOk.mono_l k
  ·
   intro y0 y1;unfold spec_CountsOk.l0;repeat' first
   | (with_reducible exact ih0 _ _)
   | (with_reducible exact LeO.refl _)
   | (with_reducible refine LeO.ite ?_ ?_)
   | (with_reducible refine LeO.bind ?_ (fun _ => ?_))
theorem spec_CountsOk.mono : ∀ a0 k,LeO (spec_CountsOk.f k a0) (spec_CountsOk.f (k + 1) a0):=by
 intro a0 k;have ih0:=spec_CountsOk.mono_l k;unfold spec_CountsOk.f;repeat' first
   | (with_reducible exact ih0 _ _)
set_option maxHeartbeats 8000000 in
set_option maxRecDepth 100000 in
theorem spec_CountsOk.calls (k : Nat) (A0 : Option Addr) (c0 : Nat) (l0 : List Int) (r : Bool) (w : World) (hr0 : Kd.C (Kd.int .i64) w A0 l0.length l0) (hc0 : l0.length ≤ c0) (h : spec_CountsOk.f k l0 = some r) :
  Calls Try.prog 8 #[.slice A0 l0.length c0] w fun e w' => e = .returned (.bool r) ∧ Drawn0 w w':=by
 have HR0:=Aside0.mk hr0;have HC0:=Aside0.mk hc0;clear hr0 hc0;have H : (spec_CountsOk.l0 k l0 0) = some r:=h;clear h;have H':=Aside0.mk H;clear H;go_enter Try.func8,Try.ntmps8;go_wp2;go_loopg [3] k (fun kq v3 w' => ∃ (x3_1 : Int),v3 = .int .i64 x3_1 ∧ Aside0 (spec_CountsOk.l0 kq l0 x3_1 = some r) ∧ Aside0 (kq ≤ k) ∧ Drawn0 w w');case atStart => exact ⟨(0),(by rfl),H',⟨Nat.le_refl _⟩,by repeat (exact Drawn0.refl _)⟩
 case round =>
  clear H';obtain ⟨x3_1,rfl,HA,HK1,⟨m1,rfl⟩⟩:=hrel;cases gk with
  | zero => exact absurd HA.out (by simp [spec_CountsOk.l0])
  | succ k1 =>
   have H:=HA.out;clear HA;simp only [spec_CountsOk.l0] at H;by_cases c2 : x3_1 < (l0.length : Int)
   ·
    rw [if_pos c2] at H;have c2b0 : decide (x3_1 < (l0.length : Int)) = true:=decide_eq_true c2;clear c2;by_cases c3 : 0 ≤ x3_1
    ·
     rw [if_pos c3] at H;have c3b0 : decide (0 ≤ x3_1) = true:=decide_eq_true c3;clear c3;replace H:=Option.bind_eq_some_iff.mp H;obtain ⟨t152,A40,H⟩:=H;have A4:=Aside0.mk A40;clear A40;by_cases c5 : t152 = true
     ·
      subst c5;have H1 : (spec_CountsOk.l0 k1 l0 (wrap64 (x3_1 + 1))) = some r:=by rw [if_pos rfl] at H;exact H
      clear H;have H:=H1;clear H1;have H':=Aside0.mk H;clear H;have p151 : 0 ≤ (x3_1 : Int):=of_decide_eq_true (by (with_reducible assumption));have q151 : x3_1 < (l0.length : Int):=of_decide_eq_true (by (with_reducible assumption));obtain ⟨ad151,e151,hx151_0⟩:=Kd.at_int HR0.out x3_1 p151 q151;cases e151;replace p151:=eq_true p151;replace q151:=eq_true q151;go_wp2_with (((with_reducible refine gate_callee (f:=23) rfl ?_);refine goesL_ (some 14) rfl rfl Try.func23 (by kernel_rfl) rfl #[.int .i64 (rd l0 x3_1),.int .i64 0,.int .i64 99999] rfl (by (try simp only [List.map_toArray,List.map_cons,List.map_nil]);rfl) ?_;(with_reducible refine (spec_l1In.calls (rd l0 x3_1) 0 99999 true _ A4.out).mono ?_);rintro e w' ⟨rfl,⟨nd,rfl⟩⟩;refine ⟨_,rfl,?_⟩))
      go_roundg k1;case measure => have:=HK1.out;omega
      case rel => exact ⟨(wrap64 (x3_1 + 1)),(by rfl),H',⟨by have:=HK1.out;omega⟩,by repeat (first|exact Drawn0.refl _|apply Drawn0.step)⟩
     ·
      replace c5:=Bool.eq_false_iff.mpr c5;subst c5;have H1 : (some false) = some r:=by rw [if_neg (show ¬ (false = true) by decide)] at H;exact H
      clear H;have H:=H1;clear H1;obtain rfl:=Option.some.inj H;have p151 : 0 ≤ (x3_1 : Int):=of_decide_eq_true (by (with_reducible assumption));have q151 : x3_1 < (l0.length : Int):=of_decide_eq_true (by (with_reducible assumption));obtain ⟨ad151,e151,hx151_0⟩:=Kd.at_int HR0.out x3_1 p151 q151;cases e151;replace p151:=eq_true p151;replace q151:=eq_true q151;go_wp2_with (((with_reducible refine gate_callee (f:=23) rfl ?_);refine goesL_ (some 14) rfl rfl Try.func23 (by kernel_rfl) rfl #[.int .i64 (rd l0 x3_1),.int .i64 0,.int .i64 99999] rfl (by (try simp only [List.map_toArray,List.map_cons,List.map_nil]);rfl) ?_;(with_reducible refine (spec_l1In.calls (rd l0 x3_1) 0 99999 false _ A4.out).mono ?_);rintro e w' ⟨rfl,⟨nd,rfl⟩⟩;refine ⟨_,rfl,?_⟩))
      go_ret;exact ⟨by rfl,by repeat (first|exact Drawn0.refl _|apply Drawn0.step)⟩
    ·
     rw [if_neg c3] at H;exact absurd H (by simp)
   ·
    rw [if_neg c2] at H;have c2b0 : decide (x3_1 < (l0.length : Int)) = false:=decide_eq_false c2;clear c2;obtain rfl:=Option.some.inj H;go_wp2;go_ret;exact ⟨by rfl,by repeat (first|exact Drawn0.refl _|apply Drawn0.step)⟩

/-! ### spec_WeighOk: function 9 -/
def spec_WeighOk.f (a0_0 : Int) (a0_1 : Int) (a0_2 : Int) : Option (Bool):=(spec_l1In.f a0_0 0 5).bind fun t154 => (if t154 = true then ((spec_l1In.f a0_1 0 3).bind fun t155 => (if t155 = true then ((spec_l1In.f a0_2 0 3).bind fun t156 => (some t156)) else (some false))) else (some false))
set_option maxHeartbeats 8000000 in
set_option maxRecDepth 100000 in
theorem spec_WeighOk.calls (a0_0 : Int) (a0_1 : Int) (a0_2 : Int) (r : Bool) (w : World) (h : spec_WeighOk.f a0_0 a0_1 a0_2 = some r) :
  Calls Try.prog 9 #[.agg #[.int .i64 a0_0,.int .i64 a0_1,.int .i64 a0_2]] w fun e w' => e = .returned (.bool r) ∧ Below w.heap.size w w':=by
 have hu25:=Try.underlying25;have HB:=Aside0.mk (Below.refl w.heap.size w);have H : ((spec_l1In.f a0_0 0 5).bind fun t154 => (if t154 = true then ((spec_l1In.f a0_1 0 3).bind fun t155 => (if t155 = true then ((spec_l1In.f a0_2 0 3).bind fun t156 => (some t156)) else (some false))) else (some false))) = some r:=h;clear h;replace H:=Option.bind_eq_some_iff.mp H;obtain ⟨t154,A20,H⟩:=H;have A2:=Aside0.mk A20;clear A20;by_cases c3 : t154 = true
 ·
  subst c3;have H1 : ((spec_l1In.f a0_1 0 3).bind fun t155 => (if t155 = true then ((spec_l1In.f a0_2 0 3).bind fun t156 => (some t156)) else (some false))) = some r:=by rw [if_pos rfl] at H;exact H
  clear H;have H:=H1;clear H1;replace H:=Option.bind_eq_some_iff.mp H;obtain ⟨t155,A40,H⟩:=H;have A4:=Aside0.mk A40;clear A40;by_cases c5 : t155 = true
  ·
   subst c5;have H1 : ((spec_l1In.f a0_2 0 3).bind fun t156 => (some t156)) = some r:=by rw [if_pos rfl] at H;exact H
   clear H;have H:=H1;clear H1;replace H:=Option.bind_eq_some_iff.mp H;obtain ⟨t156,A60,H⟩:=H;have A6:=Aside0.mk A60;clear A60;obtain rfl:=Option.some.inj H;go_enter Try.func9,Try.ntmps9;go_wp2_with (first|((with_reducible refine gate_dst (N:=1) rfl ?_);refine box_event ?hg (N:=1) ?hd (cs:=#[.int .i64 a0_0,.int .i64 a0_1,.int .i64 a0_2]) (t:=25) ?hr ?_;(case hd => rfl);(case hg => rfl);(case hr => go_simp;done);intro gb153 hg w7 hbox hb;have BK153:=Aside0.mk (hbox);have GW153:=Aside0.mk ((by rw [hg];exact (below_size (belU HB.out)) : w.heap.size ≤ gb153));have GE153:=Aside0.mk ((by rw [hg];exact (below_size (belU HB.out)) : w.heap.size ≤ gb153));replace HB:=Aside0.mk (below_step (belU HB.out) hb);clear hb hbox hg;have hcz8_0 : w7.cell? ⟨gb153,0,none⟩ = some (.int .i64 a0_0):=(blk_cell BK153.out 0).trans rfl;have hcz8_1 : w7.cell? ⟨gb153,1,none⟩ = some (.int .i64 a0_1):=(blk_cell BK153.out 1).trans rfl;have hcz8_2 : w7.cell? ⟨gb153,2,none⟩ = some (.int .i64 a0_2):=(blk_cell BK153.out 2).trans rfl;have hfz8_0:=blk_frozen BK153.out 0;have hfz8_1:=blk_frozen BK153.out 1;have hfz8_2:=blk_frozen BK153.out 2)|((with_reducible refine gate_callee (f:=23) rfl ?_);refine goesL_ (some 5) rfl rfl Try.func23 (by kernel_rfl) rfl #[.int .i64 a0_0,.int .i64 0,.int .i64 5] rfl (by (try simp only [List.map_toArray,List.map_cons,List.map_nil]);rfl) ?_;(with_reducible refine (spec_l1In.calls a0_0 0 5 true _ A2.out).mono ?_);rintro e w' ⟨rfl,⟨nd,rfl⟩⟩;refine ⟨_,rfl,?_⟩)|(go_at_call 23;(with_reducible refine (spec_l1In.calls a0_1 0 3 true _ A4.out).mono ?_);rintro e w' ⟨rfl,⟨nd,rfl⟩⟩)|(go_at_call 23;(with_reducible refine (spec_l1In.calls a0_2 0 3 t156 _ A6.out).mono ?_);rintro e w' ⟨rfl,⟨nd,rfl⟩⟩))
   go_ret;exact ⟨by rfl,by repeat (with_reducible first|exact HB.out|apply pw_below_drewN)⟩
  ·
   replace c5:=Bool.eq_false_iff.mpr c5;subst c5;have H1 : (some false) = some r:=by rw [if_neg (show ¬ (false = true) by decide)] at H;exact H
   clear H;have H:=H1;clear H1;obtain rfl:=Option.some.inj H;go_enter Try.func9,Try.ntmps9;go_wp2_with (first|((with_reducible refine gate_dst (N:=1) rfl ?_);refine box_event ?hg (N:=1) ?hd (cs:=#[.int .i64 a0_0,.int .i64 a0_1,.int .i64 a0_2]) (t:=25) ?hr ?_;(case hd => rfl);(case hg => rfl);(case hr => go_simp;done);intro gb153 hg w9 hbox hb;have BK153:=Aside0.mk (hbox);have GW153:=Aside0.mk ((by rw [hg];exact (below_size (belU HB.out)) : w.heap.size ≤ gb153));have GE153:=Aside0.mk ((by rw [hg];exact (below_size (belU HB.out)) : w.heap.size ≤ gb153));replace HB:=Aside0.mk (below_step (belU HB.out) hb);clear hb hbox hg;have hcz10_0 : w9.cell? ⟨gb153,0,none⟩ = some (.int .i64 a0_0):=(blk_cell BK153.out 0).trans rfl;have hcz10_1 : w9.cell? ⟨gb153,1,none⟩ = some (.int .i64 a0_1):=(blk_cell BK153.out 1).trans rfl;have hcz10_2 : w9.cell? ⟨gb153,2,none⟩ = some (.int .i64 a0_2):=(blk_cell BK153.out 2).trans rfl;have hfz10_0:=blk_frozen BK153.out 0;have hfz10_1:=blk_frozen BK153.out 1;have hfz10_2:=blk_frozen BK153.out 2)|((with_reducible refine gate_callee (f:=23) rfl ?_);refine goesL_ (some 5) rfl rfl Try.func23 (by kernel_rfl) rfl #[.int .i64 a0_0,.int .i64 0,.int .i64 5] rfl (by (try simp only [List.map_toArray,List.map_cons,List.map_nil]);rfl) ?_;(with_reducible refine (spec_l1In.calls a0_0 0 5 true _ A2.out).mono ?_);rintro e w' ⟨rfl,⟨nd,rfl⟩⟩;refine ⟨_,rfl,?_⟩)|(go_at_call 23;(with_reducible refine (spec_l1In.calls a0_1 0 3 false _ A4.out).mono ?_);rintro e w' ⟨rfl,⟨nd,rfl⟩⟩))
   go_ret;exact ⟨by rfl,by repeat (with_reducible first|exact HB.out|apply pw_below_drewN)⟩
 ·
  replace c3:=Bool.eq_false_iff.mpr c3;subst c3;have H1 : (some false) = some r:=by rw [if_neg (show ¬ (false = true) by decide)] at H;exact H
  clear H;have H:=H1;clear H1;obtain rfl:=Option.some.inj H;go_enter Try.func9,Try.ntmps9;go_wp2_with (first|((with_reducible refine gate_dst (N:=1) rfl ?_);refine box_event ?hg (N:=1) ?hd (cs:=#[.int .i64 a0_0,.int .i64 a0_1,.int .i64 a0_2]) (t:=25) ?hr ?_;(case hd => rfl);(case hg => rfl);(case hr => go_simp;done);intro gb153 hg w11 hbox hb;have BK153:=Aside0.mk (hbox);have GW153:=Aside0.mk ((by rw [hg];exact (below_size (belU HB.out)) : w.heap.size ≤ gb153));have GE153:=Aside0.mk ((by rw [hg];exact (below_size (belU HB.out)) : w.heap.size ≤ gb153));replace HB:=Aside0.mk (below_step (belU HB.out) hb);clear hb hbox hg;have hcz12_0 : w11.cell? ⟨gb153,0,none⟩ = some (.int .i64 a0_0):=(blk_cell BK153.out 0).trans rfl;have hcz12_1 : w11.cell? ⟨gb153,1,none⟩ = some (.int .i64 a0_1):=(blk_cell BK153.out 1).trans rfl;have hcz12_2 : w11.cell? ⟨gb153,2,none⟩ = some (.int .i64 a0_2):=(blk_cell BK153.out 2).trans rfl;have hfz12_0:=blk_frozen BK153.out 0;have hfz12_1:=blk_frozen BK153.out 1;have hfz12_2:=blk_frozen BK153.out 2)|((with_reducible refine gate_callee (f:=23) rfl ?_);refine goesL_ (some 5) rfl rfl Try.func23 (by kernel_rfl) rfl #[.int .i64 a0_0,.int .i64 0,.int .i64 5] rfl (by (try simp only [List.map_toArray,List.map_cons,List.map_nil]);rfl) ?_;(with_reducible refine (spec_l1In.calls a0_0 0 5 false _ A2.out).mono ?_);rintro e w' ⟨rfl,⟨nd,rfl⟩⟩;refine ⟨_,rfl,?_⟩))
  go_ret;exact ⟨by rfl,by repeat (with_reducible first|exact HB.out|apply pw_below_drewN)⟩

end Go.Proofs.Ytmkfmbjemdbigaa.PA
