/- The machine side of functions of this seat, written by the session's program myprint.py: for each Go function a Lean function and the proof that the call answers just it. -/
import Derived.Test.YtmkfmbjemdbigaaPAx0
import Derived.Test.YtmkfmbjemdbigaaUp
namespace Go.Proofs.Ytmkfmbjemdbigaa.PA
open Go.RowKit Go.Proofs.YtmkfmbjemdbigaaW.PrintWords Go.Proofs.YtmkfmbjemdbigaaW.PrintLast Go.Proofs.YtmkfmbjemdbigaaW.PrintMore
attribute [local go_sem] max2_int min2_int max_two min_two max_three min_three max_four min_four   -- for this text's walks alone
set_option linter.unusedVariables false
set_option linter.unusedSimpArgs false

/-! ### spec_l6Lower: function 63 -/
mutual
def spec_l6Lower.l0 : Nat → List Int → Int → Int → Option (List Int)
 | 0,_,_,_ => none
 | k + 1,x0,x3,x4 => if x4 < (x0.length : Int) then (if 0 ≤ x4 then (if (rd x0 x4) < 0 then (spec_l6Lower.j1 k x0 x3 x4 (wrap64 (-(rd x0 x4)))) else (spec_l6Lower.j1 k x0 x3 x4 (rd x0 x4))) else (none)) else (spec_l6Lower.l2 k x0 x3 (([] : List Int)) 0)
def spec_l6Lower.j1 : Nat → List Int → Int → Int → Int → Option (List Int)
 | 0,_,_,_,_ => none
 | k + 1,x0,x3,x4,x5 => spec_l6Lower.l1 k x0 x3 x4 x5
def spec_l6Lower.l1 : Nat → List Int → Int → Int → Int → Option (List Int)
 | 0,_,_,_,_ => none
 | k + 1,x0,x3,x4,x5 => if x5 > 0 then (if x5 = 0 then (none) else (spec_l6Lower.l1 k x0 x5 x4 (Int.tmod x3 x5))) else (spec_l6Lower.l0 k x0 x3 (wrap64 (x4 + 1)))
def spec_l6Lower.l2 : Nat → List Int → Int → List Int → Int → Option (List Int)
 | 0,_,_,_,_ => none
 | k + 1,x0,x3,x6,x7 => if x7 < (x0.length : Int) then (if 0 ≤ x7 then (if x3 = 0 then (none) else (if x6.length < 17592186044416 then (spec_l6Lower.l2 k x0 x3 (x6 ++ [wrap64 (Int.tdiv (rd x0 x7) x3)]) (wrap64 (x7 + 1))) else (none))) else (none)) else (some x6)
end
def spec_l6Lower.f (k : Nat) (l0 : List Int) : Option (List Int):=spec_l6Lower.l0 k l0 0 0
theorem spec_l6Lower.mono_l : ∀ k,(∀ y0 y1 y2,LeO (spec_l6Lower.l0 k y0 y1 y2) (spec_l6Lower.l0 (k + 1) y0 y1 y2)) ∧ (∀ y0 y1 y2 y3,LeO (spec_l6Lower.j1 k y0 y1 y2 y3) (spec_l6Lower.j1 (k + 1) y0 y1 y2 y3)) ∧ (∀ y0 y1 y2 y3,LeO (spec_l6Lower.l1 k y0 y1 y2 y3) (spec_l6Lower.l1 (k + 1) y0 y1 y2 y3)) ∧ (∀ y0 y1 y2 y3,LeO (spec_l6Lower.l2 k y0 y1 y2 y3) (spec_l6Lower.l2 (k + 1) y0 y1 y2 y3))
 | 0 => ⟨fun _ _ _ r h => by simp [spec_l6Lower.l0] at h,fun _ _ _ _ r h => by simp [spec_l6Lower.j1] at h,fun _ _ _ _ r h => by simp [spec_l6Lower.l1] at h,fun _ _ _ _ r h => by simp [spec_l6Lower.l2] at h⟩
 | k + 1 => by
  obtain ⟨ih0,ih1,ih2,ih3⟩:=spec_l6Lower.mono_l k;refine ⟨?_,?_,?_,?_⟩
  ·
   intro y0 y1 y2;unfold spec_l6Lower.l0;repeat' first
   | (with_reducible exact ih1 _ _ _ _)
   | (with_reducible exact ih3 _ _ _ _)
   | (with_reducible exact LeO.refl _)
   | (with_reducible refine LeO.ite ?_ ?_)
  ·
   intro y0 y1 y2 y3;unfold spec_l6Lower.j1;repeat' first
   | (with_reducible exact ih2 _ _ _ _)
  ·
   intro y0 y1 y2 y3;unfold spec_l6Lower.l1;repeat' first
   | (with_reducible exact ih0 _ _ _)
   | (with_reducible exact ih2 _ _ _ _)
   | (with_reducible exact LeO.refl _)
   | (with_reducible refine LeO.ite ?_ ?_)
  ·
   intro y0 y1 y2 y3;unfold spec_l6Lower.l2;repeat' first
   | (with_reducible exact ih3 _ _ _ _)
   | (with_reducible exact LeO.refl _)
   | (with_reducible refine LeO.ite ?_ ?_)
theorem spec_l6Lower.mono : ∀ a0 k,LeO (spec_l6Lower.f k a0) (spec_l6Lower.f (k + 1) a0):=by
 intro a0 k;obtain ⟨ih0,ih1,ih2,ih3⟩:=spec_l6Lower.mono_l k;unfold spec_l6Lower.f;repeat' first
   | (with_reducible exact ih0 _ _ _)
set_option maxHeartbeats 8000000 in
set_option maxRecDepth 100000 in
theorem spec_l6Lower.calls (k : Nat) (A0 : Option Addr) (c0 : Nat) (l0 : List Int) (r : List Int) (w : World) (hr0 : Kd.C (Kd.int .i64) w A0 l0.length l0) (hc0 : l0.length ≤ c0) (h : spec_l6Lower.f k l0 = some r) :
  Calls Try.prog 63 #[.slice A0 l0.length c0] w fun e w' => ∃ v0_ : Value,e = .returned (v0_) ∧ Kd.R (Kd.int .i64) 3 w' w.heap.size (fun _ => True) v0_ r ∧ Below w.heap.size w w':=by
 have HR0:=Aside0.mk hr0;have HC0:=Aside0.mk hc0;clear hr0 hc0;have HB:=Aside0.mk (Below.refl w.heap.size w);have H : (spec_l6Lower.l0 k l0 0 0) = some r:=h;clear h;have H':=Aside0.mk H;clear H;go_enter Try.func63,Try.ntmps63;go_wp2;repeat (go_quiet (fail))
 go_loopg [3,4] k (fun kq v3 v4 w' => ∃ (x3_1 : Int) (x4_1 : Int),v3 = .int .i64 x3_1 ∧ v4 = .int .i64 x4_1 ∧ Aside0 (spec_l6Lower.l0 kq l0 x3_1 x4_1 = some r) ∧ Aside0 (kq ≤ k) ∧ Aside0 (Below w.heap.size w w'));case atStart => exact ⟨(0),(0),(by rfl),(by rfl),H',⟨Nat.le_refl _⟩,⟨belU HB.out⟩⟩
 case round =>
  clear H';obtain ⟨x3_1,x4_1,rfl,rfl,HA,HK1,HB⟩:=hrel;cases gk with
  | zero => exact absurd HA.out (by simp [spec_l6Lower.l0])
  | succ k1 =>
   have H:=HA.out;clear HA;simp only [spec_l6Lower.l0] at H;by_cases c2 : x4_1 < (l0.length : Int)
   ·
    rw [if_pos c2] at H;have c2b0 : decide (x4_1 < (l0.length : Int)) = true:=decide_eq_true c2;clear c2;by_cases c3 : 0 ≤ x4_1
    ·
     rw [if_pos c3] at H;have c3b0 : decide (0 ≤ x4_1) = true:=decide_eq_true c3;clear c3;have HC4:=Aside0.mk H;clear H;have p252 : 0 ≤ (x4_1 : Int):=of_decide_eq_true (by (with_reducible assumption));have q252 : x4_1 < (l0.length : Int):=of_decide_eq_true (by (with_reducible assumption));obtain ⟨ad252,e252,hx252_0⟩:=Kd.at_int HR0.out x4_1 p252 q252;cases e252;replace hx252_0:=(HB.out.cell (World.block_lt_of_cell? w _ hx252_0)).trans hx252_0;replace p252:=eq_true p252;replace q252:=eq_true q252;go_upto_if 19 with (fail)
     repeat (go_quiet (fail);go_upto_if 19 with (fail))
     go_cut [5] (fun v5 wc => ∃ (kq : Nat) (x5_3 : Int),v5 = .int .i64 x5_3 ∧ Aside0 (spec_l6Lower.j1 kq l0 x3_1 x4_1 x5_3 = some r) ∧ Aside0 (kq ≤ k1) ∧ Aside0 (Below w.heap.size w wc));case first =>
      have H:=HC4.out;clear HC4;by_cases c5 : (rd l0 x4_1) < 0
      ·
       rw [if_pos c5] at H;have c5b0 : decide ((rd l0 x4_1) < 0) = true:=decide_eq_true c5;clear c5;(rw [c5b0]);have H':=Aside0.mk H;clear H;go_wp2;repeat (go_quiet (fail))
       go_meet;case rel => exact ⟨_,(wrap64 (-(rd l0 x4_1))),(by rfl),H',⟨by have:=HK1.out;omega⟩,⟨belU HB.out⟩⟩
      ·
       rw [if_neg c5] at H;have c5b0 : decide ((rd l0 x4_1) < 0) = false:=decide_eq_false c5;clear c5;(rw [c5b0]);have H':=Aside0.mk H;clear H;go_wp2;repeat (go_quiet (fail))
       go_meet;case rel => exact ⟨_,(rd l0 x4_1),(by rfl),H',⟨by have:=HK1.out;omega⟩,⟨belU HB.out⟩⟩
     case rest =>
      clear HC4 c2b0 c3b0 hx252_0 p252 q252;obtain ⟨kq,x5_3,rfl,HA,HJ3,HB⟩:=hcut;cases kq with
      | zero => exact absurd HA.out (by simp [spec_l6Lower.j1])
      | succ kj3 =>
       have H:=HA.out;clear HA;simp only [spec_l6Lower.j1] at H;have H':=Aside0.mk H;clear H;go_wp2;repeat (go_quiet (fail))
       go_loopg [3,5] kj3 (fun kq v3 v5 w' => ∃ (x3_3 : Int) (x5_3 : Int),v3 = .int .i64 x3_3 ∧ v5 = .int .i64 x5_3 ∧ Aside0 (spec_l6Lower.l1 kq l0 x3_3 x4_1 x5_3 = some r) ∧ Aside0 (kq ≤ kj3) ∧ Aside0 (Below w.heap.size w w'));case atStart => exact ⟨(x3_1),(x5_3),(by rfl),(by rfl),H',⟨Nat.le_refl _⟩,⟨belU HB.out⟩⟩
       case round =>
        clear H';obtain ⟨x3_3,x5_3,rfl,rfl,HA,HK3,HB⟩:=hrel;cases gk with
        | zero => exact absurd HA.out (by simp [spec_l6Lower.l1])
        | succ k3 =>
         have H:=HA.out;clear HA;simp only [spec_l6Lower.l1] at H;by_cases c6 : x5_3 > 0
         ·
          rw [if_pos c6] at H;have c6b0 : decide (0 < x5_3) = true:=decide_eq_true c6;clear c6;by_cases c7 : x5_3 = 0
          ·
           rw [if_pos c7] at H;exact absurd H (by simp)
          ·
           rw [if_neg c7] at H;have c7b0 : (x5_3 == 0) = false:=beq_eq_false_iff_ne.mpr c7;have c7b1 : (x5_3 != 0) = true:=bne_iff_ne.mpr c7;have H':=Aside0.mk H;clear H;go_wp2;repeat (go_quiet (fail);try go_wp2)
           go_roundg k3;case measure => have:=HK1.out;have:=HJ3.out;have:=HK3.out;omega
           case rel => exact ⟨(x5_3),(Int.tmod x3_3 x5_3),(by rfl),(by rfl),H',⟨by have:=HK1.out;have:=HJ3.out;have:=HK3.out;omega⟩,⟨belU HB.out⟩⟩
         ·
          rw [if_neg c6] at H;have c6b0 : decide (0 < x5_3) = false:=decide_eq_false c6;clear c6;have H':=Aside0.mk H;clear H;go_wp2;repeat (go_quiet (fail))
          go_roundg k3;case measure => have:=HK1.out;have:=HJ3.out;have:=HK3.out;omega
          case rel => exact ⟨(x3_3),(wrap64 (x4_1 + 1)),(by rfl),(by rfl),H',⟨by have:=HK1.out;have:=HJ3.out;have:=HK3.out;omega⟩,⟨belU HB.out⟩⟩
    ·
     rw [if_neg c3] at H;exact absurd H (by simp)
   ·
    rw [if_neg c2] at H;have c2b0 : decide (x4_1 < (l0.length : Int)) = false:=decide_eq_false c2;clear c2;obtain ⟨y253,hy253⟩ : ∃ y_ : List Int,y_ = (([] : List Int)):=⟨_,rfl⟩
    replace H : (spec_l6Lower.l2 k1 l0 x3_1 y253 0) = some r:=by (rw [hy253];with_reducible exact H)
    have Ny253:=Aside0.mk hy253;clear hy253;have H':=Aside0.mk H;clear H;go_wp2_with (((with_reducible refine gate_dst (N:=28) rfl ?_);refine Kd.R_lit (Kd.int .i64) _ 3 ?hg (N:=28) ?hd (xs:=([] : List Int)) (inner:=[]) (ok:=fun _ => True) (okp:=fun _ => True) ?hr ?hp (fun _ hk => hk) trivial (Below.refl _ _) (Nat.le_refl _) (by simp) ?_;(case hd => rfl);(case hg => rfl);(case hr => go_simp;done);(case hp => exact (Reps.none _ _));intro v254 w8 ho9 hb hg_ hnew_;clear hg_ hnew_;(rw [← Ny253.out] at ho9);have HO255:=Aside0.mk (Kd.R_lower ho9 (below_size (belU HB.out)));replace HB:=Aside0.mk (below_step (belU HB.out) hb);clear hb ho9))
    repeat (go_quiet (fail))
    go_loopg [6,7] k1 (fun kq v6 v7 w' => ∃ (x6_2 : List Int) (x7_2 : Int),v7 = .int .i64 x7_2 ∧ Aside0 (spec_l6Lower.l2 kq l0 x3_1 x6_2 x7_2 = some r) ∧ Aside0 (kq ≤ k1) ∧ Aside0 (Kd.R (Kd.int .i64) 3 w' w.heap.size (fun _ => True) v6 x6_2) ∧ Aside0 (Below w.heap.size w w'));case atStart => exact ⟨(y253),(0),(by rfl),H',⟨Nat.le_refl _⟩,⟨rU HO255.out⟩,⟨belU HB.out⟩⟩
    case round =>
     clear H';clear c2b0;obtain ⟨x6_2,x7_2,rfl,HA,HK2,HO_6,HB⟩:=hrel;cases gk with
     | zero => exact absurd HA.out (by simp [spec_l6Lower.l2])
     | succ k2 =>
      have H:=HA.out;clear HA;simp only [spec_l6Lower.l2] at H;by_cases c10 : x7_2 < (l0.length : Int)
      ·
       rw [if_pos c10] at H;have c10b0 : decide (x7_2 < (l0.length : Int)) = true:=decide_eq_true c10;clear c10;by_cases c11 : 0 ≤ x7_2
       ·
        rw [if_pos c11] at H;have c11b0 : decide (0 ≤ x7_2) = true:=decide_eq_true c11;clear c11;by_cases c12 : x3_1 = 0
        ·
         rw [if_pos c12] at H;exact absurd H (by simp)
        ·
         rw [if_neg c12] at H;have c12b0 : (x3_1 == 0) = false:=beq_eq_false_iff_ne.mpr c12;have c12b1 : (x3_1 != 0) = true:=bne_iff_ne.mpr c12;by_cases c13 : x6_2.length < 17592186044416
         ·
          rw [if_pos c13] at H;have LMc13:=Aside0.mk c13;clear c13;obtain ⟨y257,hy257⟩ : ∃ y_ : List Int,y_ = (x6_2 ++ [wrap64 (Int.tdiv (rd l0 x7_2) x3_1)]):=⟨_,rfl⟩
          replace H : (spec_l6Lower.l2 k2 l0 x3_1 y257 (wrap64 (x7_2 + 1))) = some r:=by (rw [hy257];with_reducible exact H)
          have Ny257:=Aside0.mk hy257;clear hy257;have H':=Aside0.mk H;clear H;have p256 : 0 ≤ (x7_2 : Int):=of_decide_eq_true (by (with_reducible assumption));have q256 : x7_2 < (l0.length : Int):=of_decide_eq_true (by (with_reducible assumption));obtain ⟨ad256,e256,hx256_0⟩:=Kd.at_int HR0.out x7_2 p256 q256;cases e256;replace hx256_0:=(HB.out.cell (World.block_lt_of_cell? w _ hx256_0)).trans hx256_0;replace p256:=eq_true p256;replace q256:=eq_true q256;go_wp2_with (((with_reducible refine gate_builtin (b:=.append) (xs:=#[.tmp 35,.tmp 42]) rfl ?_);at_builtin;refine Kd.R_append (Kd.int .i64) (w0:=w) w.heap.size rfl (.tmp 35) (.tmp 42) 29 3 (.int .i64 0) 8 rfl Try.underlying29 info3 rfl (by decide) (by omega) u6 x6_2 (wrap64 (Int.tdiv (rd l0 x7_2) x3_1)) [.int .i64 (wrap64 (Int.tdiv (rd l0 x7_2) x3_1))] (fun _ => True) (fun _ => False) rfl rfl ?aP (fun _ hk => hk.elim) ?aF ?aO ?aB ?aS ?aL ?_;(case aP => exact rfl);(case aB => exact (belU HB.out));(case aF => exact (fun _ _ => trivial));(case aO => exact (rU HO_6.out));(case aS => exact (below_size (belU HB.out)));(case aL => have:=LMc13.out;omega);intro v258 w14 ho hb hg hat;rw [← Ny257.out] at ho;replace HB:=Aside0.mk (hb);have HO259:=Aside0.mk (ho);clear HO_6 ho hb hg hat))
          repeat (go_quiet (fail))
          go_roundg k2;case measure => have:=HK1.out;have:=HK2.out;omega
          case rel => exact ⟨(y257),(wrap64 (x7_2 + 1)),(by rfl),H',⟨by have:=HK1.out;have:=HK2.out;omega⟩,⟨rU HO259.out⟩,⟨belU HB.out⟩⟩
         ·
          rw [if_neg c13] at H;exact absurd H (by simp)
       ·
        rw [if_neg c11] at H;exact absurd H (by simp)
      ·
       rw [if_neg c10] at H;have c10b0 : decide (x7_2 < (l0.length : Int)) = false:=decide_eq_false c10;clear c10;obtain rfl:=Option.some.inj H;go_wp2;repeat (go_quiet (fail))
       go_ret;exact ⟨_,by rfl,rU HO_6.out,belU HB.out⟩

end Go.Proofs.Ytmkfmbjemdbigaa.PA
