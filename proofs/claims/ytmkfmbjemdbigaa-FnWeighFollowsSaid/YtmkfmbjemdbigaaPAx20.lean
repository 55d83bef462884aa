/- The machine side of functions of this seat, written by the session's program myprint.py: for each Go function a Lean function and the proof that the call answers just it. -/
import Derived.Test.YtmkfmbjemdbigaaPAx0
import Derived.Test.YtmkfmbjemdbigaaUp
import Derived.Test.YtmkfmbjemdbigaaPAx12
import Derived.Test.YtmkfmbjemdbigaaPAx18
import Derived.Test.YtmkfmbjemdbigaaPAx19
namespace Go.Proofs.Ytmkfmbjemdbigaa.PA
open Go.RowKit Go.Proofs.YtmkfmbjemdbigaaW.PrintWords Go.Proofs.YtmkfmbjemdbigaaW.PrintLast Go.Proofs.YtmkfmbjemdbigaaW.PrintMore
attribute [local go_sem] max2_int min2_int max_two min_two max_three min_three max_four min_four   -- for this text's walks alone
set_option linter.unusedVariables false
set_option linter.unusedSimpArgs false

/-! ### spec_l6Corners: function 49 -/
mutual
def spec_l6Corners.l0 : Nat → List (List Int) → List (List Int) → Int → Option ((List (List Int)))
 | 0,_,_,_ => none
 | k + 1,x0,x3,x4 => if x4 < (x0.length : Int) then (spec_l6Corners.l1 k x0 x3 x4 0) else (some x3)
def spec_l6Corners.l1 : Nat → List (List Int) → List (List Int) → Int → Int → Option ((List (List Int)))
 | 0,_,_,_,_ => none
 | k + 1,x0,x3,x4,x5 => if x5 < x4 then (spec_l6Corners.l2 k x0 x3 x4 x5 0) else (spec_l6Corners.l0 k x0 x3 (wrap64 (x4 + 1)))
def spec_l6Corners.l2 : Nat → List (List Int) → List (List Int) → Int → Int → Int → Option ((List (List Int)))
 | 0,_,_,_,_,_ => none
 | k + 1,x0,x3,x4,x5,x6 => if x6 < x5 then (if 0 ≤ x4 then (if x4 < (x0.length : Int) then (if 0 ≤ x5 then (if x5 < (x0.length : Int) then (if 0 ≤ x6 then (if x6 < (x0.length : Int) then ((spec_l6Minor.f (rd_L5 x0 x4) (rd_L5 x0 x5) (rd_L5 x0 x6)).bind fun t266 => ((spec_l6Dot.f k t266 t266).bind fun t269 => (if t269 = 0 then (spec_l6Corners.l2 k x0 x3 x4 x5 (wrap64 (x6 + 1))) else (spec_l6Corners.l3 k x0 x3 x4 x5 x6 t266 0)))) else (none)) else (none)) else (none)) else (none)) else (none)) else (none)) else (spec_l6Corners.l1 k x0 x3 x4 (wrap64 (x5 + 1)))
def spec_l6Corners.l3 : Nat → List (List Int) → List (List Int) → Int → Int → Int → List Int → Int → Option ((List (List Int)))
 | 0,_,_,_,_,_,_,_ => none
 | k + 1,x0,x3,x4,x5,x6,x7,x8 => if x8 < 2 then (spec_l6Corners.l4 k x0 x3 x4 x5 x6 x7 x8 (([] : List Int)) 0) else (spec_l6Corners.l2 k x0 x3 x4 x5 (wrap64 (x6 + 1)))
def spec_l6Corners.l4 : Nat → List (List Int) → List (List Int) → Int → Int → Int → List Int → Int → List Int → Int → Option ((List (List Int)))
 | 0,_,_,_,_,_,_,_,_,_ => none
 | k + 1,x0,x3,x4,x5,x6,x7,x8,x9,x10 => if x10 < 4 then (if 0 ≤ x10 then (if x10 < (x7.length : Int) then (if x9.length < 17592186044416 then (spec_l6Corners.l4 k x0 x3 x4 x5 x6 x7 x8 (x9 ++ [wrap64 ((rd x7 x10) * (wrap64 (1 - (wrap64 (2 * x8)))))]) (wrap64 (x10 + 1))) else (none)) else (none)) else (none)) else ((spec_l6Lower.f k x9).bind fun t277 => (spec_l6Corners.l5 k x0 x3 x4 x5 x6 x7 x8 t277 true 0))
def spec_l6Corners.l5 : Nat → List (List Int) → List (List Int) → Int → Int → Int → List Int → Int → List Int → Bool → Int → Option ((List (List Int)))
 | 0,_,_,_,_,_,_,_,_,_,_ => none
 | k + 1,x0,x3,x4,x5,x6,x7,x8,x9,x11,x12 => if x12 < (x0.length : Int) then (if x11 = true then (if 0 ≤ x12 then ((spec_l6Dot.f k (rd_L5 x0 x12) x9).bind fun t281 => (spec_l6Corners.l5 k x0 x3 x4 x5 x6 x7 x8 x9 (decide (t281 ≥ 0)) (wrap64 (x12 + 1)))) else (none)) else (spec_l6Corners.l5 k x0 x3 x4 x5 x6 x7 x8 x9 false (wrap64 (x12 + 1)))) else (spec_l6Corners.l6 k x0 x3 x4 x5 x6 x7 x8 x9 x11 0)
def spec_l6Corners.l6 : Nat → List (List Int) → List (List Int) → Int → Int → Int → List Int → Int → List Int → Bool → Int → Option ((List (List Int)))
 | 0,_,_,_,_,_,_,_,_,_,_ => none
 | k + 1,x0,x3,x4,x5,x6,x7,x8,x9,x11,x13 => if x13 < (x3.length : Int) then (if x11 = true then (if 0 ≤ x13 then ((spec_l6Dot.f k (rd_L5 x3 x13) (rd_L5 x3 x13)).bind fun t287 => ((spec_l6Dot.f k x9 x9).bind fun t288 => ((spec_l6Dot.f k (rd_L5 x3 x13) x9).bind fun t290 => ((spec_l6Dot.f k (rd_L5 x3 x13) x9).bind fun t292 => (spec_l6Corners.l6 k x0 x3 x4 x5 x6 x7 x8 x9 ((wrap64 (t287 * t288)) != (wrap64 (t290 * t292))) (wrap64 (x13 + 1))))))) else (none)) else (spec_l6Corners.l6 k x0 x3 x4 x5 x6 x7 x8 x9 false (wrap64 (x13 + 1)))) else (if x11 = true then (if x3.length < 5864062014805 then (spec_l6Corners.l3 k x0 (x3 ++ [x9]) x4 x5 x6 x7 (wrap64 (x8 + 1))) else (none)) else (spec_l6Corners.l3 k x0 x3 x4 x5 x6 x7 (wrap64 (x8 + 1))))
end
def spec_l6Corners.f (k : Nat) (l0 : List (List Int)) : Option ((List (List Int))):=spec_l6Corners.l0 k l0 (([] : List (List Int))) 0
theorem spec_l6Corners.mono_l : ∀ k,(∀ y0 y1 y2,LeO (spec_l6Corners.l0 k y0 y1 y2) (spec_l6Corners.l0 (k + 1) y0 y1 y2)) ∧ (∀ y0 y1 y2 y3,LeO (spec_l6Corners.l1 k y0 y1 y2 y3) (spec_l6Corners.l1 (k + 1) y0 y1 y2 y3)) ∧ (∀ y0 y1 y2 y3 y4,LeO (spec_l6Corners.l2 k y0 y1 y2 y3 y4) (spec_l6Corners.l2 (k + 1) y0 y1 y2 y3 y4)) ∧ (∀ y0 y1 y2 y3 y4 y5 y6,LeO (spec_l6Corners.l3 k y0 y1 y2 y3 y4 y5 y6) (spec_l6Corners.l3 (k + 1) y0 y1 y2 y3 y4 y5 y6)) ∧ (∀ y0 y1 y2 y3 y4 y5 y6 y7 y8,LeO (spec_l6Corners.l4 k y0 y1 y2 y3 y4 y5 y6 y7 y8) (spec_l6Corners.l4 (k + 1) y0 y1 y2 y3 y4 y5 y6 y7 y8)) ∧ (∀ y0 y1 y2 y3 y4 y5 y6 y7 y8 y9,LeO (spec_l6Corners.l5 k y0 y1 y2 y3 y4 y5 y6 y7 y8 y9) (spec_l6Corners.l5 (k + 1) y0 y1 y2 y3 y4 y5 y6 y7 y8 y9)) ∧ (∀ y0 y1 y2 y3 y4 y5 y6 y7 y8 y9,LeO (spec_l6Corners.l6 k y0 y1 y2 y3 y4 y5 y6 y7 y8 y9) (spec_l6Corners.l6 (k + 1) y0 y1 y2 y3 y4 y5 y6 y7 y8 y9))
 | 0 => ⟨fun _ _ _ r h => by simp [spec_l6Corners.l0] at h,fun _ _ _ _ r h => by simp [spec_l6Corners.l1] at h,fun _ _ _ _ _ r h => by simp [spec_l6Corners.l2] at h,fun _ _ _ _ _ _ _ r h => by simp [spec_l6Corners.l3] at h,fun _ _ _ _ _ _ _ _ _ r h => by simp [spec_l6Corners.l4] at h,fun _ _ _ _ _ _ _ _ _ _ r h => by simp [spec_l6Corners.l5] at h,fun _ _ _ _ _ _ _ _ _ _ r h => by simp [spec_l6Corners.l6] at h⟩
 | k + 1 => by
  obtain ⟨ih0,ih1,ih2,ih3,ih4,ih5,ih6⟩:=spec_l6Corners.mono_l k;refine ⟨?_,?_,?_,?_,?_,?_,?_⟩
  ·
   intro y0 y1 y2;unfold spec_l6Corners.l0;repeat' first
   | (with_reducible exact ih1 _ _ _ _)
   | (with_reducible exact LeO.refl _)
   | (with_reducible refine LeO.ite ?_ ?_)
  ·
   intro y0 y1 y2 y3;unfold spec_l6Corners.l1;repeat' first
   | (with_reducible exact ih0 _ _ _)
   | (with_reducible exact ih2 _ _ _ _ _)
   | (with_reducible refine LeO.ite ?_ ?_)
  ·
   intro y0 y1 y2 y3 y4;unfold spec_l6Corners.l2;repeat' first
   | (with_reducible exact ih1 _ _ _ _)
   | (with_reducible exact ih2 _ _ _ _ _)
   | (with_reducible exact ih3 _ _ _ _ _ _ _)
   | (with_reducible exact spec_l6Dot.mono _ _ _)
   | (with_reducible exact LeO.refl _)
   | (with_reducible refine LeO.ite ?_ ?_)
   | (with_reducible refine LeO.bind ?_ (fun _ => ?_))
  ·
   intro y0 y1 y2 y3 y4 y5 y6;unfold spec_l6Corners.l3;repeat' first
   | (with_reducible exact ih2 _ _ _ _ _)
   | (with_reducible exact ih4 _ _ _ _ _ _ _ _ _)
   | (with_reducible refine LeO.ite ?_ ?_)
  ·
   intro y0 y1 y2 y3 y4 y5 y6 y7 y8;unfold spec_l6Corners.l4;repeat' first
   | (with_reducible exact ih4 _ _ _ _ _ _ _ _ _)
   | (with_reducible exact ih5 _ _ _ _ _ _ _ _ _ _)
   | (with_reducible exact spec_l6Lower.mono _ _)
   | (with_reducible exact LeO.refl _)
   | (with_reducible refine LeO.ite ?_ ?_)
   | (with_reducible refine LeO.bind ?_ (fun _ => ?_))
  ·
   intro y0 y1 y2 y3 y4 y5 y6 y7 y8 y9;unfold spec_l6Corners.l5;repeat' first
   | (with_reducible exact ih5 _ _ _ _ _ _ _ _ _ _)
   | (with_reducible exact ih6 _ _ _ _ _ _ _ _ _ _)
   | (with_reducible exact spec_l6Dot.mono _ _ _)
   | (with_reducible exact LeO.refl _)
   | (with_reducible refine LeO.ite ?_ ?_)
   | (with_reducible refine LeO.bind ?_ (fun _ => ?_))
  ·
   intro y0 y1 y2 y3 y4 y5 y6 y7 y8 y9;unfold spec_l6Corners.l6;repeat' first
   | (with_reducible exact ih3 _ _ _ _ _ _ _)
   | (with_reducible exact ih6 _ _ _ _ _ _ _ _ _ _)
   | (with_reducible exact spec_l6Dot.mono _ _ _)
   | (with_reducible exact LeO.refl _)
   | (with_reducible refine LeO.ite ?_ ?_)
   | (with_reducible refine LeO.bind ?_ (fun _ => ?_))
theorem spec_l6Corners.mono : ∀ a0 k,LeO (spec_l6Corners.f k a0) (spec_l6Corners.f (k + 1) a0):=by
 intro a0 k;obtain ⟨ih0,ih1,ih2,ih3,ih4,ih5,ih6⟩:=spec_l6Corners.mono_l k;unfold spec_l6Corners.f;repeat' first
   | (with_reducible exact ih0 _ _ _)
def spec_l6Corners.T11 : Bool × List (List Nat × List Nat):=(true,[([],[]),([],[]),([0,1],[0,1]),([2],[2]),([],[]),([],[]),([4,5],[4,5]),([6],[6]),([],[]),([],[]),([8,9],[8,9]),([10],[10]),([3,7,11],[3,7,11]),([12,12,0,1,2,3,4,5,6,7,8,9,10,11,12],[12])])
def spec_l6Corners.B11 : List Nat:=[0,0,3,7,0,0,48,112,0,0,768,1792,4095,8191]
theorem spec_l6Corners.tab11 : rtab .any (opsOf Try.f49 11) = spec_l6Corners.T11:=by kernel_rfl
theorem spec_l6Corners.bits11 : waitsOk spec_l6Corners.T11.2 spec_l6Corners.B11 = true:=by kernel_rfl
def spec_l6Corners.T30 : Bool × List (List Nat × List Nat):=(true,[([],[]),([0],[0]),([1],[1]),([1],[1]),([2,3,1],[1,2,3]),([4,1],[1,4]),([1],[1]),([1],[1]),([6,7,1],[1,6,7]),([8,1],[1,8]),([5,9,1,1],[1,5,9]),([1],[1]),([1],[1]),([11,12,10,1],[1,11,12]),([10,13,1],[1,10,13]),([1],[1]),([1],[1]),([15,16,1],[1,15,16]),([17,1],[1,17]),([1],[1]),([18,19,13,1],[1,18,19]),([1],[1]),([1],[1]),([21,22,1],[1,21,22]),([23,1],[1,23]),([1],[1]),([24,25,20,1],[1,24,25]),([20,26,1],[1,20,26]),([14,27,1],[1,14,27]),([1,28],[1,28]),([29,26,0,1,2,3,4,5,6,7,8,9,10,11,12,13,14,15,16,17,18,19,20,21,22,23,24,25,26,27,28,29],[0,29])])
def spec_l6Corners.B30 : List Nat:=[0,1,3,3,15,31,3,3,195,451,1023,3,3,8191,16383,3,3,98307,229379,3,1032191,3,3,6291459,14680067,3,67092479,134201343,268435455,536870911,1073741823]
theorem spec_l6Corners.tab30 : rtab .any (opsOf Try.f49 30) = spec_l6Corners.T30:=by kernel_rfl
theorem spec_l6Corners.bits30 : waitsOk spec_l6Corners.T30.2 spec_l6Corners.B30 = true:=by kernel_rfl
set_option maxHeartbeats 8000000 in
set_option maxRecDepth 100000 in
theorem spec_l6Corners.calls (k : Nat) (A0 : Option Addr) (c0 : Nat) (l0 : List (List Int)) (r : List (List Int)) (w : World) (hr0 : Kd.C (Kd.slice 3 (Kd.int .i64)) w A0 l0.length l0) (hc0 : l0.length ≤ c0) (h : spec_l6Corners.f k l0 = some r) :
  Calls Try.prog 49 #[.slice A0 l0.length c0] w fun e w' => ∃ v0_ : Value,e = .returned (v0_) ∧ Kd.S (Kd.slice 3 (Kd.int .i64)) 29 w' w.heap.size (fun _ => True) v0_ r ∧ Below w.heap.size w w':=by
 have HR0:=Aside0.mk hr0;have HC0:=Aside0.mk hc0;clear hr0 hc0;have HB:=Aside0.mk (Below.refl w.heap.size w);have H : (spec_l6Corners.l0 k l0 (([] : List (List Int))) 0) = some r:=h;clear h;obtain ⟨y260,hy260⟩ : ∃ y_ : List (List Int),y_ = (([] : List (List Int))):=⟨_,rfl⟩
 replace H : (spec_l6Corners.l0 k l0 y260 0) = some r:=by (rw [hy260];with_reducible exact H)
 have Ny260:=Aside0.mk hy260;clear hy260;have H':=Aside0.mk H;clear H;go_enter Try.func49,Try.ntmps49;go_wp2_with (((with_reducible refine gate_dst (N:=14) rfl ?_);refine Kd.S_lit (Kd.slice 3 (Kd.int .i64)) _ 29 ?hg (N:=14) ?hd (xs:=([] : List (List Int))) (inner:=[]) (ok:=fun _ => True) (okp:=fun _ => True) ?hr ?hp (fun _ hk => hk) trivial (Below.refl _ _) (Nat.le_refl _) (by simp) ?_;(case hd => rfl);(case hg => rfl);(case hr => go_simp;done);(case hp => exact (Reps.none _ _));intro v261 w2 ho3 hb hg_ hnew_;clear hg_ hnew_;(rw [← Ny260.out] at ho3);have HO262:=Aside0.mk (Kd.S_lower ho3 (below_size (belU HB.out)));replace HB:=Aside0.mk (below_step (belU HB.out) hb);clear hb ho3))
 go_loopg [3,4] k (fun kq v3 v4 w' => ∃ (x3_1 : List (List Int)) (x4_1 : Int),v4 = .int .i64 x4_1 ∧ Aside0 (spec_l6Corners.l0 kq l0 x3_1 x4_1 = some r) ∧ Aside0 (kq ≤ k) ∧ Aside0 (Kd.S (Kd.slice 3 (Kd.int .i64)) 29 w' w.heap.size (fun _ => True) v3 x3_1) ∧ Aside0 (Below w.heap.size w w'));case atStart => exact ⟨(y260),(0),(by rfl),H',⟨Nat.le_refl _⟩,⟨by exact HO262.out⟩,⟨belU HB.out⟩⟩
 case round =>
  clear H';obtain ⟨x3_1,x4_1,rfl,HA,HK1,HO_3,HB⟩:=hrel;cases gk with
  | zero => exact absurd HA.out (by simp [spec_l6Corners.l0])
  | succ k1 =>
   have H:=HA.out;clear HA;simp only [spec_l6Corners.l0] at H;by_cases c4 : x4_1 < (l0.length : Int)
   ·
    rw [if_pos c4] at H;have c4b0 : decide (x4_1 < (l0.length : Int)) = true:=decide_eq_true c4;clear c4;have H':=Aside0.mk H;clear H;go_wp2;go_loopg [3,5] k1 (fun kq v3 v5 w' => ∃ (x3_2 : List (List Int)) (x5_2 : Int),v5 = .int .i64 x5_2 ∧ Aside0 (spec_l6Corners.l1 kq l0 x3_2 x4_1 x5_2 = some r) ∧ Aside0 (kq ≤ k1) ∧ Aside0 (Kd.S (Kd.slice 3 (Kd.int .i64)) 29 w' w.heap.size (fun _ => True) v3 x3_2) ∧ Aside0 (Below w.heap.size w w'));case atStart => exact ⟨(x3_1),(0),(by rfl),H',⟨Nat.le_refl _⟩,⟨by exact HO_3.out⟩,⟨belU HB.out⟩⟩
    case round =>
     clear H';clear c4b0;obtain ⟨x3_2,x5_2,rfl,HA,HK2,HO_3,HB⟩:=hrel;cases gk with
     | zero => exact absurd HA.out (by simp [spec_l6Corners.l1])
     | succ k2 =>
      have H:=HA.out;clear HA;simp only [spec_l6Corners.l1] at H;by_cases c5 : x5_2 < x4_1
      ·
       rw [if_pos c5] at H;have c5b0 : decide (x5_2 < x4_1) = true:=decide_eq_true c5;clear c5;have H':=Aside0.mk H;clear H;go_wp2;go_loopg [3,6] k2 (fun kq v3 v6 w' => ∃ (x3_3 : List (List Int)) (x6_3 : Int),v6 = .int .i64 x6_3 ∧ Aside0 (spec_l6Corners.l2 kq l0 x3_3 x4_1 x5_2 x6_3 = some r) ∧ Aside0 (kq ≤ k2) ∧ Aside0 (Kd.S (Kd.slice 3 (Kd.int .i64)) 29 w' w.heap.size (fun _ => True) v3 x3_3) ∧ Aside0 (Below w.heap.size w w'));case atStart => exact ⟨(x3_2),(0),(by rfl),H',⟨Nat.le_refl _⟩,⟨by exact HO_3.out⟩,⟨belU HB.out⟩⟩
       case round =>
        clear H';clear c5b0;obtain ⟨x3_3,x6_3,rfl,HA,HK3,HO_3,HB⟩:=hrel;cases gk with
        | zero => exact absurd HA.out (by simp [spec_l6Corners.l2])
        | succ k3 =>
         have H:=HA.out;clear HA;simp only [spec_l6Corners.l2] at H;by_cases c6 : x6_3 < x5_2
         ·
          rw [if_pos c6] at H;have c6b0 : decide (x6_3 < x5_2) = true:=decide_eq_true c6;clear c6;by_cases c7 : 0 ≤ x4_1
          ·
           rw [if_pos c7] at H;have c7b0 : decide (0 ≤ x4_1) = true:=decide_eq_true c7;clear c7;by_cases c8 : x4_1 < (l0.length : Int)
           ·
            rw [if_pos c8] at H;have c8b0 : decide (x4_1 < (l0.length : Int)) = true:=decide_eq_true c8;clear c8;by_cases c9 : 0 ≤ x5_2
            ·
             rw [if_pos c9] at H;have c9b0 : decide (0 ≤ x5_2) = true:=decide_eq_true c9;clear c9;by_cases c10 : x5_2 < (l0.length : Int)
             ·
              rw [if_pos c10] at H;have c10b0 : decide (x5_2 < (l0.length : Int)) = true:=decide_eq_true c10;clear c10;by_cases c11 : 0 ≤ x6_3
              ·
               rw [if_pos c11] at H;have c11b0 : decide (0 ≤ x6_3) = true:=decide_eq_true c11;clear c11;by_cases c12 : x6_3 < (l0.length : Int)
               ·
                rw [if_pos c12] at H;have c12b0 : decide (x6_3 < (l0.length : Int)) = true:=decide_eq_true c12;clear c12;replace H:=Option.bind_eq_some_iff.mp H;obtain ⟨t266,A130,H⟩:=H;have A13:=Aside0.mk A130;clear A130;replace H:=Option.bind_eq_some_iff.mp H;obtain ⟨t269,A140,H⟩:=H;have A14:=Aside0.mk A140;clear A140;by_cases c15 : t269 = 0
                ·
                 rw [if_pos c15] at H;have c15b0 : (t269 == 0) = true:=beq_iff_eq.mpr c15;have c15b1 : (t269 != 0) = false:=bne_eq_false_iff_eq.mpr c15;clear c15;have H':=Aside0.mk H;clear H;try go_wp2
                 replace HO_3:=Aside0.mk (Kd.S_drew HO_3.out);replace HB:=Aside0.mk (below_drew1 HB.out);have p263 : 0 ≤ (x4_1 : Int):=of_decide_eq_true (by (with_reducible assumption));have q263 : x4_1 < (l0.length : Int):=of_decide_eq_true (by (with_reducible assumption));obtain ⟨ad263,A263_0,c263_0,e263,hx263_0,hl263_0,hi263_0⟩:=at_L5 HR0.out x4_1 p263 q263;have hw263_0:=hx263_0;cases e263;replace hx263_0:=(HB.out.cell (World.block_lt_of_cell? w _ hx263_0)).trans hx263_0;have HR263_0:=Aside0.mk hi263_0;have HC263_0:=Aside0.mk hl263_0;clear hi263_0 hl263_0;replace p263:=eq_true p263;replace q263:=eq_true q263;have p264 : 0 ≤ (x5_2 : Int):=of_decide_eq_true (by (with_reducible assumption));have q264 : x5_2 < (l0.length : Int):=of_decide_eq_true (by (with_reducible assumption));obtain ⟨ad264,A264_0,c264_0,e264,hx264_0,hl264_0,hi264_0⟩:=at_L5 HR0.out x5_2 p264 q264;have hw264_0:=hx264_0;obtain rfl : ad263 = ad264:=(by injection e264)
                 replace hx264_0:=(HB.out.cell (World.block_lt_of_cell? w _ hx264_0)).trans hx264_0;have HR264_0:=Aside0.mk hi264_0;have HC264_0:=Aside0.mk hl264_0;clear hi264_0 hl264_0;replace p264:=eq_true p264;replace q264:=eq_true q264;have p265 : 0 ≤ (x6_3 : Int):=of_decide_eq_true (by (with_reducible assumption));have q265 : x6_3 < (l0.length : Int):=of_decide_eq_true (by (with_reducible assumption));obtain ⟨ad265,A265_0,c265_0,e265,hx265_0,hl265_0,hi265_0⟩:=at_L5 HR0.out x6_3 p265 q265;have hw265_0:=hx265_0;obtain rfl : ad263 = ad265:=(by injection e265)
                 replace hx265_0:=(HB.out.cell (World.block_lt_of_cell? w _ hx265_0)).trans hx265_0;have HR265_0:=Aside0.mk hi265_0;have HC265_0:=Aside0.mk hl265_0;clear hi265_0 hl265_0;replace p265:=eq_true p265;replace q265:=eq_true q265;refine start_ (n:=14) (S:=fun w' => w'.cell? (ad263.add (x4_1).toNat) = some (.slice A263_0 (rd_L5 l0 x4_1).length c263_0) ∧ w'.cell? (ad263.add (x5_2).toNat) = some (.slice A264_0 (rd_L5 l0 x5_2).length c264_0) ∧ w'.cell? (ad263.add (x6_3).toNat) = some (.slice A265_0 (rd_L5 l0 x6_3).length c265_0)) (ds:=[]) #[false,false,false,false,false,false,false,false,false,false,false,false,false,false] (by kernel_rfl) rfl rfl ⟨((HB.out.cell (World.block_lt_of_cell? w _ hw263_0)).trans hw263_0),((HB.out.cell (World.block_lt_of_cell? w _ hw264_0)).trans hw264_0),((HB.out.cell (World.block_lt_of_cell? w _ hw265_0)).trans hw265_0)⟩ (fun hHeld => ?_);refine with_tabW spec_l6Corners.tab11 spec_l6Corners.bits11 (fun HT_ HW_ => ?_);generalize wr.drew = w16 at HO_3 HB HR263_0 HR264_0 HR265_0 hx263_0 hx264_0 hx265_0 hHeld ⊢;refine pure_ (i:=0) (N:=some 31) (v:=?_) (a':=?_) #[true,false,false,false,false,false,false,false,false,false,false,false,false,false] rfl rfl (any_of HT_.out (by kernel_rfl)) (fun _ _ _ h => h) (Or.inl ⟨by rfl,?_⟩) ?_ ?_;rotate_left
                 ·
                  intro w';go_simp
                  with_reducible rfl
                 rotate_left
                 ·
                  simp only [Act.put,List.setIfInBounds_toArray,List.set_cons_zero,List.set_cons_succ,i64_w,i32_w];rfl
                 refine pure_ (i:=1) (N:=some 32) (v:=?_) (a':=?_) #[true,true,false,false,false,false,false,false,false,false,false,false,false,false] rfl rfl (any_of HT_.out (by kernel_rfl)) (fun _ _ _ h => h) (Or.inl ⟨by rfl,?_⟩) ?_ ?_;rotate_left
                 ·
                  intro w';go_simp
                  with_reducible rfl
                 rotate_left
                 ·
                  simp only [Act.put,List.setIfInBounds_toArray,List.set_cons_zero,List.set_cons_succ,i64_w,i32_w];rfl
                 refine pure_ (i:=2) (N:=some 33) (v:=?_) (a':=?_) #[true,true,true,false,false,false,false,false,false,false,false,false,false,false] rfl rfl (any_of HT_.out (by kernel_rfl)) (fun _ _ _ h => h) (Or.inl ⟨by rfl,?_⟩) ?_ ?_;rotate_left
                 ·
                  intro w';go_simp
                  with_reducible rfl
                 rotate_left
                 ·
                  simp only [Act.put,List.setIfInBounds_toArray,List.set_cons_zero,List.set_cons_succ,i64_w,i32_w];rfl
                 refine pure_ (i:=4) (N:=some 35) (v:=?_) (a':=?_) #[true,true,true,false,true,false,false,false,false,false,false,false,false,false] rfl rfl (any_of HT_.out (by kernel_rfl)) (fun _ _ _ h => h) (Or.inl ⟨by rfl,?_⟩) ?_ ?_;rotate_left
                 ·
                  intro w';go_simp
                  with_reducible rfl
                 rotate_left
                 ·
                  simp only [Act.put,List.setIfInBounds_toArray,List.set_cons_zero,List.set_cons_succ,i64_w,i32_w];rfl
                 refine pure_ (i:=5) (N:=some 36) (v:=?_) (a':=?_) #[true,true,true,false,true,true,false,false,false,false,false,false,false,false] rfl rfl (any_of HT_.out (by kernel_rfl)) (fun _ _ _ h => h) (Or.inl ⟨by rfl,?_⟩) ?_ ?_;rotate_left
                 ·
                  intro w';go_simp
                  with_reducible rfl
                 rotate_left
                 ·
                  simp only [Act.put,List.setIfInBounds_toArray,List.set_cons_zero,List.set_cons_succ,i64_w,i32_w];rfl
                 refine pure_ (i:=6) (N:=some 37) (v:=?_) (a':=?_) #[true,true,true,false,true,true,true,false,false,false,false,false,false,false] rfl rfl (any_of HT_.out (by kernel_rfl)) (fun _ _ _ h => h) (Or.inl ⟨by rfl,?_⟩) ?_ ?_;rotate_left
                 ·
                  intro w';go_simp
                  with_reducible rfl
                 rotate_left
                 ·
                  simp only [Act.put,List.setIfInBounds_toArray,List.set_cons_zero,List.set_cons_succ,i64_w,i32_w];rfl
                 refine pure_ (i:=8) (N:=some 39) (v:=?_) (a':=?_) #[true,true,true,false,true,true,true,false,true,false,false,false,false,false] rfl rfl (any_of HT_.out (by kernel_rfl)) (fun _ _ _ h => h) (Or.inl ⟨by rfl,?_⟩) ?_ ?_;rotate_left
                 ·
                  intro w';go_simp
                  with_reducible rfl
                 rotate_left
                 ·
                  simp only [Act.put,List.setIfInBounds_toArray,List.set_cons_zero,List.set_cons_succ,i64_w,i32_w];rfl
                 refine pure_ (i:=9) (N:=some 40) (v:=?_) (a':=?_) #[true,true,true,false,true,true,true,false,true,true,false,false,false,false] rfl rfl (any_of HT_.out (by kernel_rfl)) (fun _ _ _ h => h) (Or.inl ⟨by rfl,?_⟩) ?_ ?_;rotate_left
                 ·
                  intro w';go_simp
                  with_reducible rfl
                 rotate_left
                 ·
                  simp only [Act.put,List.setIfInBounds_toArray,List.set_cons_zero,List.set_cons_succ,i64_w,i32_w];rfl
                 refine pure_ (i:=10) (N:=some 41) (v:=?_) (a':=?_) #[true,true,true,false,true,true,true,false,true,true,true,false,false,false] rfl rfl (any_of HT_.out (by kernel_rfl)) (fun _ _ _ h => h) (Or.inl ⟨by rfl,?_⟩) ?_ ?_;rotate_left
                 ·
                  intro w';go_simp
                  with_reducible rfl
                 rotate_left
                 ·
                  simp only [Act.put,List.setIfInBounds_toArray,List.set_cons_zero,List.set_cons_succ,i64_w,i32_w];rfl
                 refine take_ (i:=3) (N:=some 34) (v:=?_) (a':=?_) #[true,true,true,true,true,true,true,false,true,true,true,false,false,false] rfl rfl (take_ofW HT_.out HW_.out (by kernel_rfl)) (fun _ _ _ h => h) (Or.inl ⟨by rfl,?_⟩) hHeld ?_ ?_;rotate_left
                 ·
                  rintro w' ⟨s0,s1,s2⟩;go_simp
                  with_reducible rfl
                 rotate_left
                 ·
                  simp only [Act.put,List.setIfInBounds_toArray,List.set_cons_zero,List.set_cons_succ,i64_w,i32_w];rfl
                 refine take_ (i:=7) (N:=some 38) (v:=?_) (a':=?_) #[true,true,true,true,true,true,true,true,true,true,true,false,false,false] rfl rfl (take_ofW HT_.out HW_.out (by kernel_rfl)) (fun _ _ _ h => h) (Or.inl ⟨by rfl,?_⟩) hHeld ?_ ?_;rotate_left
                 ·
                  rintro w' ⟨s0,s1,s2⟩;go_simp
                  with_reducible rfl
                 rotate_left
                 ·
                  simp only [Act.put,List.setIfInBounds_toArray,List.set_cons_zero,List.set_cons_succ,i64_w,i32_w];rfl
                 refine take_ (i:=11) (N:=some 42) (v:=?_) (a':=?_) #[true,true,true,true,true,true,true,true,true,true,true,true,false,false] rfl rfl (take_ofW HT_.out HW_.out (by kernel_rfl)) (fun _ _ _ h => h) (Or.inl ⟨by rfl,?_⟩) hHeld ?_ ?_;rotate_left
                 ·
                  rintro w' ⟨s0,s1,s2⟩;go_simp
                  with_reducible rfl
                 rotate_left
                 ·
                  simp only [Act.put,List.setIfInBounds_toArray,List.set_cons_zero,List.set_cons_succ,i64_w,i32_w];rfl
                 refine one_ (i:=12) (N:=some 43) #[true,true,true,true,true,true,true,true,true,true,true,true,true,false] rfl rfl (one_of HT_.out (by kernel_rfl)) (by decide) (fun K hK => ?_);refine goes_ Try.func62 (by kernel_rfl) rfl #[.slice A263_0 (rd_L5 l0 x4_1).length c263_0,.slice A264_0 (rd_L5 l0 x5_2).length c264_0,.slice A265_0 (rd_L5 l0 x6_3).length c265_0] (by rfl) rfl rfl (by (try simp only [List.map_toArray,List.map_cons,List.map_nil]);rfl) ?_
                 with_reducible refine (spec_l6Minor.calls _ _ (rd_L5 l0 x4_1) _ _ (rd_L5 l0 x5_2) _ _ (rd_L5 l0 x6_3) t266 _ ?side1 ?side2 ?side3 ?side4 ?side5 ?side6 A13.out).mono ?_
                 (case side1 => exact cU (Kd.C_below HR263_0.out HB.out));(case side2 => exact HC263_0.out);(case side3 => exact cU (Kd.C_below HR264_0.out HB.out));(case side4 => exact HC264_0.out);(case side5 => exact cU (Kd.C_below HR265_0.out HB.out));(case side6 => exact HC265_0.out);rintro e w17 ⟨v267,rfl,ho0,hb⟩;refine ⟨_,rfl,?_⟩;replace HO_3:=Aside0.mk (Kd.S_elder' (by exact HO_3.out) (Kd.R_base ho0) hb);have HO268:=Aside0.mk (Kd.R_lower ho0 (below_size (belU HB.out)));replace HB:=Aside0.mk (below_step (belU HB.out) hb);(try clear hb);(try clear ho0);refine hK.out _ _ ⟨((HB.out.cell (World.block_lt_of_cell? w _ hw263_0)).trans hw263_0),((HB.out.cell (World.block_lt_of_cell? w _ hw264_0)).trans hw264_0),((HB.out.cell (World.block_lt_of_cell? w _ hw265_0)).trans hw265_0)⟩ (fun hHeld => ?_);clear hK K;refine norm_ (a':=?_) ?_ ?_;rotate_left
                 ·
                  show Act.put _ (some 43) _ = _;simp only [Act.put,List.setIfInBounds_toArray,List.set_cons_zero,List.set_cons_succ,i64_w,i32_w];rfl
                 refine pure_ (i:=13) (N:=some 7) (v:=?_) (a':=?_) #[true,true,true,true,true,true,true,true,true,true,true,true,true,true] rfl rfl (any_of HT_.out (by kernel_rfl)) (fun _ _ _ h => h) (Or.inl ⟨by rfl,?_⟩) ?_ ?_;rotate_left
                 ·
                  intro w';go_simp
                  with_reducible rfl
                 rotate_left
                 ·
                  simp only [Act.put,List.setIfInBounds_toArray,List.set_cons_zero,List.set_cons_succ,i64_w,i32_w];rfl
                 refine done_ (done_of HT_.out (by kernel_rfl)) ?_;obtain ⟨Ao18,co18,eo18⟩:=Kd.R_slice HO268.out;subst eo18;try go_wp2_with (((with_reducible refine gate_callee (f:=51) rfl ?_);refine goesL_ (some 46) rfl rfl Try.func51 (by kernel_rfl) rfl #[.slice Ao18 t266.length co18,.slice Ao18 t266.length co18] rfl (by (try simp only [List.map_toArray,List.map_cons,List.map_nil]);rfl) ?_;(with_reducible refine (spec_l6Dot.calls k3 _ _ t266 _ _ t266 t269 _ ?side1 ?side2 ?side3 ?side4 A14.out).mono ?_);(case side1 => exact cU (Kd.R_reads' HO268.out).2.2);(case side2 => exact (Kd.R_reads' HO268.out).2.1);(case side3 => exact cU (Kd.R_reads' HO268.out).2.2);(case side4 => exact (Kd.R_reads' HO268.out).2.1);rintro e w' ⟨rfl,⟨nd,rfl⟩⟩;refine ⟨_,rfl,?_⟩))
                 go_roundg k3;case measure => have:=HK1.out;have:=HK2.out;have:=HK3.out;omega
                 case rel => exact ⟨(x3_3),(wrap64 (x6_3 + 1)),(by rfl),H',⟨by have:=HK1.out;have:=HK2.out;have:=HK3.out;omega⟩,⟨by (with_reducible repeat (apply Kd.S_drewN));exact Kd.S_mono HO_3.out (fun _ hk => trivial)⟩,⟨belU HB.out⟩⟩
                ·
                 rw [if_neg c15] at H;have c15b0 : (t269 == 0) = false:=beq_eq_false_iff_ne.mpr c15;have c15b1 : (t269 != 0) = true:=bne_iff_ne.mpr c15;have H':=Aside0.mk H;clear H;try go_wp2
                 replace HO_3:=Aside0.mk (Kd.S_drew HO_3.out);replace HB:=Aside0.mk (below_drew1 HB.out);have p263 : 0 ≤ (x4_1 : Int):=of_decide_eq_true (by (with_reducible assumption));have q263 : x4_1 < (l0.length : Int):=of_decide_eq_true (by (with_reducible assumption));obtain ⟨ad263,A263_0,c263_0,e263,hx263_0,hl263_0,hi263_0⟩:=at_L5 HR0.out x4_1 p263 q263;have hw263_0:=hx263_0;cases e263;replace hx263_0:=(HB.out.cell (World.block_lt_of_cell? w _ hx263_0)).trans hx263_0;have HR263_0:=Aside0.mk hi263_0;have HC263_0:=Aside0.mk hl263_0;clear hi263_0 hl263_0;replace p263:=eq_true p263;replace q263:=eq_true q263;have p264 : 0 ≤ (x5_2 : Int):=of_decide_eq_true (by (with_reducible assumption));have q264 : x5_2 < (l0.length : Int):=of_decide_eq_true (by (with_reducible assumption));obtain ⟨ad264,A264_0,c264_0,e264,hx264_0,hl264_0,hi264_0⟩:=at_L5 HR0.out x5_2 p264 q264;have hw264_0:=hx264_0;obtain rfl : ad263 = ad264:=(by injection e264)
                 replace hx264_0:=(HB.out.cell (World.block_lt_of_cell? w _ hx264_0)).trans hx264_0;have HR264_0:=Aside0.mk hi264_0;have HC264_0:=Aside0.mk hl264_0;clear hi264_0 hl264_0;replace p264:=eq_true p264;replace q264:=eq_true q264;have p265 : 0 ≤ (x6_3 : Int):=of_decide_eq_true (by (with_reducible assumption));have q265 : x6_3 < (l0.length : Int):=of_decide_eq_true (by (with_reducible assumption));obtain ⟨ad265,A265_0,c265_0,e265,hx265_0,hl265_0,hi265_0⟩:=at_L5 HR0.out x6_3 p265 q265;have hw265_0:=hx265_0;obtain rfl : ad263 = ad265:=(by injection e265)
                 replace hx265_0:=(HB.out.cell (World.block_lt_of_cell? w _ hx265_0)).trans hx265_0;have HR265_0:=Aside0.mk hi265_0;have HC265_0:=Aside0.mk hl265_0;clear hi265_0 hl265_0;replace p265:=eq_true p265;replace q265:=eq_true q265;refine start_ (n:=14) (S:=fun w' => w'.cell? (ad263.add (x4_1).toNat) = some (.slice A263_0 (rd_L5 l0 x4_1).length c263_0) ∧ w'.cell? (ad263.add (x5_2).toNat) = some (.slice A264_0 (rd_L5 l0 x5_2).length c264_0) ∧ w'.cell? (ad263.add (x6_3).toNat) = some (.slice A265_0 (rd_L5 l0 x6_3).length c265_0)) (ds:=[]) #[false,false,false,false,false,false,false,false,false,false,false,false,false,false] (by kernel_rfl) rfl rfl ⟨((HB.out.cell (World.block_lt_of_cell? w _ hw263_0)).trans hw263_0),((HB.out.cell (World.block_lt_of_cell? w _ hw264_0)).trans hw264_0),((HB.out.cell (World.block_lt_of_cell? w _ hw265_0)).trans hw265_0)⟩ (fun hHeld => ?_);refine with_tabW spec_l6Corners.tab11 spec_l6Corners.bits11 (fun HT_ HW_ => ?_);generalize wr.drew = w19 at HO_3 HB HR263_0 HR264_0 HR265_0 hx263_0 hx264_0 hx265_0 hHeld ⊢;refine pure_ (i:=0) (N:=some 31) (v:=?_) (a':=?_) #[true,false,false,false,false,false,false,false,false,false,false,false,false,false] rfl rfl (any_of HT_.out (by kernel_rfl)) (fun _ _ _ h => h) (Or.inl ⟨by rfl,?_⟩) ?_ ?_;rotate_left
                 ·
                  intro w';go_simp
                  with_reducible rfl
                 rotate_left
                 ·
                  simp only [Act.put,List.setIfInBounds_toArray,List.set_cons_zero,List.set_cons_succ,i64_w,i32_w];rfl
                 refine pure_ (i:=1) (N:=some 32) (v:=?_) (a':=?_) #[true,true,false,false,false,false,false,false,false,false,false,false,false,false] rfl rfl (any_of HT_.out (by kernel_rfl)) (fun _ _ _ h => h) (Or.inl ⟨by rfl,?_⟩) ?_ ?_;rotate_left
                 ·
                  intro w';go_simp
                  with_reducible rfl
                 rotate_left
                 ·
                  simp only [Act.put,List.setIfInBounds_toArray,List.set_cons_zero,List.set_cons_succ,i64_w,i32_w];rfl
                 refine pure_ (i:=2) (N:=some 33) (v:=?_) (a':=?_) #[true,true,true,false,false,false,false,false,false,false,false,false,false,false] rfl rfl (any_of HT_.out (by kernel_rfl)) (fun _ _ _ h => h) (Or.inl ⟨by rfl,?_⟩) ?_ ?_;rotate_left
                 ·
                  intro w';go_simp
                  with_reducible rfl
                 rotate_left
                 ·
                  simp only [Act.put,List.setIfInBounds_toArray,List.set_cons_zero,List.set_cons_succ,i64_w,i32_w];rfl
                 refine pure_ (i:=4) (N:=some 35) (v:=?_) (a':=?_) #[true,true,true,false,true,false,false,false,false,false,false,false,false,false] rfl rfl (any_of HT_.out (by kernel_rfl)) (fun _ _ _ h => h) (Or.inl ⟨by rfl,?_⟩) ?_ ?_;rotate_left
                 ·
                  intro w';go_simp
                  with_reducible rfl
                 rotate_left
                 ·
                  simp only [Act.put,List.setIfInBounds_toArray,List.set_cons_zero,List.set_cons_succ,i64_w,i32_w];rfl
                 refine pure_ (i:=5) (N:=some 36) (v:=?_) (a':=?_) #[true,true,true,false,true,true,false,false,false,false,false,false,false,false] rfl rfl (any_of HT_.out (by kernel_rfl)) (fun _ _ _ h => h) (Or.inl ⟨by rfl,?_⟩) ?_ ?_;rotate_left
                 ·
                  intro w';go_simp
                  with_reducible rfl
                 rotate_left
                 ·
                  simp only [Act.put,List.setIfInBounds_toArray,List.set_cons_zero,List.set_cons_succ,i64_w,i32_w];rfl
                 refine pure_ (i:=6) (N:=some 37) (v:=?_) (a':=?_) #[true,true,true,false,true,true,true,false,false,false,false,false,false,false] rfl rfl (any_of HT_.out (by kernel_rfl)) (fun _ _ _ h => h) (Or.inl ⟨by rfl,?_⟩) ?_ ?_;rotate_left
                 ·
                  intro w';go_simp
                  with_reducible rfl
                 rotate_left
                 ·
                  simp only [Act.put,List.setIfInBounds_toArray,List.set_cons_zero,List.set_cons_succ,i64_w,i32_w];rfl
                 refine pure_ (i:=8) (N:=some 39) (v:=?_) (a':=?_) #[true,true,true,false,true,true,true,false,true,false,false,false,false,false] rfl rfl (any_of HT_.out (by kernel_rfl)) (fun _ _ _ h => h) (Or.inl ⟨by rfl,?_⟩) ?_ ?_;rotate_left
                 ·
                  intro w';go_simp
                  with_reducible rfl
                 rotate_left
                 ·
                  simp only [Act.put,List.setIfInBounds_toArray,List.set_cons_zero,List.set_cons_succ,i64_w,i32_w];rfl
                 refine pure_ (i:=9) (N:=some 40) (v:=?_) (a':=?_) #[true,true,true,false,true,true,true,false,true,true,false,false,false,false] rfl rfl (any_of HT_.out (by kernel_rfl)) (fun _ _ _ h => h) (Or.inl ⟨by rfl,?_⟩) ?_ ?_;rotate_left
                 ·
                  intro w';go_simp
                  with_reducible rfl
                 rotate_left
                 ·
                  simp only [Act.put,List.setIfInBounds_toArray,List.set_cons_zero,List.set_cons_succ,i64_w,i32_w];rfl
                 refine pure_ (i:=10) (N:=some 41) (v:=?_) (a':=?_) #[true,true,true,false,true,true,true,false,true,true,true,false,false,false] rfl rfl (any_of HT_.out (by kernel_rfl)) (fun _ _ _ h => h) (Or.inl ⟨by rfl,?_⟩) ?_ ?_;rotate_left
                 ·
                  intro w';go_simp
                  with_reducible rfl
                 rotate_left
                 ·
                  simp only [Act.put,List.setIfInBounds_toArray,List.set_cons_zero,List.set_cons_succ,i64_w,i32_w];rfl
                 refine take_ (i:=3) (N:=some 34) (v:=?_) (a':=?_) #[true,true,true,true,true,true,true,false,true,true,true,false,false,false] rfl rfl (take_ofW HT_.out HW_.out (by kernel_rfl)) (fun _ _ _ h => h) (Or.inl ⟨by rfl,?_⟩) hHeld ?_ ?_;rotate_left
                 ·
                  rintro w' ⟨s0,s1,s2⟩;go_simp
                  with_reducible rfl
                 rotate_left
                 ·
                  simp only [Act.put,List.setIfInBounds_toArray,List.set_cons_zero,List.set_cons_succ,i64_w,i32_w];rfl
                 refine take_ (i:=7) (N:=some 38) (v:=?_) (a':=?_) #[true,true,true,true,true,true,true,true,true,true,true,false,false,false] rfl rfl (take_ofW HT_.out HW_.out (by kernel_rfl)) (fun _ _ _ h => h) (Or.inl ⟨by rfl,?_⟩) hHeld ?_ ?_;rotate_left
                 ·
                  rintro w' ⟨s0,s1,s2⟩;go_simp
                  with_reducible rfl
                 rotate_left
                 ·
                  simp only [Act.put,List.setIfInBounds_toArray,List.set_cons_zero,List.set_cons_succ,i64_w,i32_w];rfl
                 refine take_ (i:=11) (N:=some 42) (v:=?_) (a':=?_) #[true,true,true,true,true,true,true,true,true,true,true,true,false,false] rfl rfl (take_ofW HT_.out HW_.out (by kernel_rfl)) (fun _ _ _ h => h) (Or.inl ⟨by rfl,?_⟩) hHeld ?_ ?_;rotate_left
                 ·
                  rintro w' ⟨s0,s1,s2⟩;go_simp
                  with_reducible rfl
                 rotate_left
                 ·
                  simp only [Act.put,List.setIfInBounds_toArray,List.set_cons_zero,List.set_cons_succ,i64_w,i32_w];rfl
                 refine one_ (i:=12) (N:=some 43) #[true,true,true,true,true,true,true,true,true,true,true,true,true,false] rfl rfl (one_of HT_.out (by kernel_rfl)) (by decide) (fun K hK => ?_);refine goes_ Try.func62 (by kernel_rfl) rfl #[.slice A263_0 (rd_L5 l0 x4_1).length c263_0,.slice A264_0 (rd_L5 l0 x5_2).length c264_0,.slice A265_0 (rd_L5 l0 x6_3).length c265_0] (by rfl) rfl rfl (by (try simp only [List.map_toArray,List.map_cons,List.map_nil]);rfl) ?_
                 with_reducible refine (spec_l6Minor.calls _ _ (rd_L5 l0 x4_1) _ _ (rd_L5 l0 x5_2) _ _ (rd_L5 l0 x6_3) t266 _ ?side1 ?side2 ?side3 ?side4 ?side5 ?side6 A13.out).mono ?_
                 (case side1 => exact cU (Kd.C_below HR263_0.out HB.out));(case side2 => exact HC263_0.out);(case side3 => exact cU (Kd.C_below HR264_0.out HB.out));(case side4 => exact HC264_0.out);(case side5 => exact cU (Kd.C_below HR265_0.out HB.out));(case side6 => exact HC265_0.out);rintro e w20 ⟨v267,rfl,ho0,hb⟩;refine ⟨_,rfl,?_⟩;replace HO_3:=Aside0.mk (Kd.S_elder' (by exact HO_3.out) (Kd.R_base ho0) hb);have HO268:=Aside0.mk (Kd.R_lower ho0 (below_size (belU HB.out)));replace HB:=Aside0.mk (below_step (belU HB.out) hb);(try clear hb);(try clear ho0);refine hK.out _ _ ⟨((HB.out.cell (World.block_lt_of_cell? w _ hw263_0)).trans hw263_0),((HB.out.cell (World.block_lt_of_cell? w _ hw264_0)).trans hw264_0),((HB.out.cell (World.block_lt_of_cell? w _ hw265_0)).trans hw265_0)⟩ (fun hHeld => ?_);clear hK K;refine norm_ (a':=?_) ?_ ?_;rotate_left
                 ·
                  show Act.put _ (some 43) _ = _;simp only [Act.put,List.setIfInBounds_toArray,List.set_cons_zero,List.set_cons_succ,i64_w,i32_w];rfl
                 refine pure_ (i:=13) (N:=some 7) (v:=?_) (a':=?_) #[true,true,true,true,true,true,true,true,true,true,true,true,true,true] rfl rfl (any_of HT_.out (by kernel_rfl)) (fun _ _ _ h => h) (Or.inl ⟨by rfl,?_⟩) ?_ ?_;rotate_left
                 ·
                  intro w';go_simp
                  with_reducible rfl
                 rotate_left
                 ·
                  simp only [Act.put,List.setIfInBounds_toArray,List.set_cons_zero,List.set_cons_succ,i64_w,i32_w];rfl
                 refine done_ (done_of HT_.out (by kernel_rfl)) ?_;obtain ⟨Ao21,co21,eo21⟩:=Kd.R_slice HO268.out;subst eo21;try go_wp2_with (((with_reducible refine gate_callee (f:=51) rfl ?_);refine goesL_ (some 46) rfl rfl Try.func51 (by kernel_rfl) rfl #[.slice Ao21 t266.length co21,.slice Ao21 t266.length co21] rfl (by (try simp only [List.map_toArray,List.map_cons,List.map_nil]);rfl) ?_;(with_reducible refine (spec_l6Dot.calls k3 _ _ t266 _ _ t266 t269 _ ?side1 ?side2 ?side3 ?side4 A14.out).mono ?_);(case side1 => exact cU (Kd.R_reads' HO268.out).2.2);(case side2 => exact (Kd.R_reads' HO268.out).2.1);(case side3 => exact cU (Kd.R_reads' HO268.out).2.2);(case side4 => exact (Kd.R_reads' HO268.out).2.1);rintro e w' ⟨rfl,⟨nd,rfl⟩⟩;refine ⟨_,rfl,?_⟩))
                 go_loopg [3,8] k3 (fun kq v3 v8 w' => ∃ (x3_4 : List (List Int)) (x8_4 : Int),v8 = .int .i64 x8_4 ∧ Aside0 (spec_l6Corners.l3 kq l0 x3_4 x4_1 x5_2 x6_3 t266 x8_4 = some r) ∧ Aside0 (kq ≤ k3) ∧ Aside0 (Kd.S (Kd.slice 3 (Kd.int .i64)) 29 w' w.heap.size (fun k_ => some k_ ≠ ((.slice Ao21 t266.length co21) : Value).ownBlock) v3 x3_4) ∧ Aside0 (Kd.R (Kd.int .i64) 3 w' w.heap.size (fun _ => True) (.slice Ao21 t266.length co21) t266) ∧ Aside0 (Below w.heap.size w w'));case atStart => exact ⟨(x3_3),(0),(by rfl),H',⟨Nat.le_refl _⟩,⟨by (with_reducible repeat (apply Kd.S_drewN));exact Kd.S_mono HO_3.out (fun _ hk => hk.2)⟩,⟨rU HO268.out⟩,⟨belU HB.out⟩⟩
                 case round =>
                  clear H';clear c6b0 c7b0 c8b0 c9b0 c10b0 c11b0 c12b0 c15 c15b0 c15b1 hx263_0 hx264_0 hx265_0 p263 p264 p265 q263 q264 q265;obtain ⟨x3_4,x8_4,rfl,HA,HK4,HO_3,HO_7,HB⟩:=hrel;cases gk with
                  | zero => exact absurd HA.out (by simp [spec_l6Corners.l3])
                  | succ k4 =>
                   have H:=HA.out;clear HA;simp only [spec_l6Corners.l3] at H;by_cases c22 : x8_4 < 2
                   ·
                    rw [if_pos c22] at H;have c22b0 : decide (x8_4 < 2) = true:=decide_eq_true c22;clear c22;obtain ⟨y270,hy270⟩ : ∃ y_ : List Int,y_ = (([] : List Int)):=⟨_,rfl⟩
                    replace H : (spec_l6Corners.l4 k4 l0 x3_4 x4_1 x5_2 x6_3 t266 x8_4 y270 0) = some r:=by (rw [hy270];with_reducible exact H)
                    have Ny270:=Aside0.mk hy270;clear hy270;have H':=Aside0.mk H;clear H;go_wp2_with (((with_reducible refine gate_dst (N:=52) rfl ?_);refine Kd.R_lit (Kd.int .i64) _ 3 ?hg (N:=52) ?hd (xs:=([] : List Int)) (inner:=[]) (ok:=fun _ => True) (okp:=fun _ => True) ?hr ?hp (fun _ hk => hk) trivial (Below.refl _ _) (Nat.le_refl _) (by simp) ?_;(case hd => rfl);(case hg => rfl);(case hr => go_simp;done);(case hp => exact (Reps.none _ _));intro v271 w23 ho24 hb hg_ hnew_;clear hg_ hnew_;(rw [← Ny270.out] at ho24);replace HO_3:=Aside0.mk (Kd.S_elder' (by exact HO_3.out) (Kd.R_base ho24) hb);have HO272:=Aside0.mk (Kd.R_lower (Kd.R_new' ho24 (Kd.R_lt (rU HO_7.out))) (below_size (belU HB.out)));replace HO_7:=Aside0.mk (Kd.R_elder' (rU HO_7.out) (Kd.R_base ho24) hb);replace HB:=Aside0.mk (below_step (belU HB.out) hb);clear hb ho24))
                    go_loopg [9,10] k4 (fun kq v9 v10 w' => ∃ (x9_5 : List Int) (x10_5 : Int),v10 = .int .i64 x10_5 ∧ Aside0 (spec_l6Corners.l4 kq l0 x3_4 x4_1 x5_2 x6_3 t266 x8_4 x9_5 x10_5 = some r) ∧ Aside0 (kq ≤ k4) ∧ Aside0 (Kd.S (Kd.slice 3 (Kd.int .i64)) 29 w' w.heap.size (fun k_ => some k_ ≠ ((.slice Ao21 t266.length co21) : Value).ownBlock ∧ some k_ ≠ (v9 : Value).ownBlock) u3 x3_4) ∧ Aside0 (Kd.R (Kd.int .i64) 3 w' w.heap.size (fun k_ => some k_ ≠ (v9 : Value).ownBlock) (.slice Ao21 t266.length co21) t266) ∧ Aside0 (Kd.R (Kd.int .i64) 3 w' w.heap.size (fun k_ => some k_ ≠ ((.slice Ao21 t266.length co21) : Value).ownBlock) v9 x9_5) ∧ Aside0 (Below w.heap.size w w'));case atStart => exact ⟨(y270),(0),(by rfl),H',⟨Nat.le_refl _⟩,⟨by exact HO_3.out⟩,⟨by exact Kd.R_mono HO_7.out (fun _ hk => hk.2)⟩,⟨by exact Kd.R_mono HO272.out (fun _ hk => hk.2)⟩,⟨belU HB.out⟩⟩
                    case round =>
                     clear H';clear c22b0;obtain ⟨x9_5,x10_5,rfl,HA,HK5,HO_3,HO_7,HO_9,HB⟩:=hrel;cases gk with
                     | zero => exact absurd HA.out (by simp [spec_l6Corners.l4])
                     | succ k5 =>
                      have H:=HA.out;clear HA;simp only [spec_l6Corners.l4] at H;by_cases c25 : x10_5 < 4
                      ·
                       rw [if_pos c25] at H;have c25b0 : decide (x10_5 < 4) = true:=decide_eq_true c25;clear c25;by_cases c26 : 0 ≤ x10_5
                       ·
                        rw [if_pos c26] at H;have c26b0 : decide (0 ≤ x10_5) = true:=decide_eq_true c26;clear c26;by_cases c27 : x10_5 < (t266.length : Int)
                        ·
                         rw [if_pos c27] at H;have c27b0 : decide (x10_5 < (t266.length : Int)) = true:=decide_eq_true c27;clear c27;by_cases c28 : x9_5.length < 17592186044416
                         ·
                          rw [if_pos c28] at H;have LMc28:=Aside0.mk c28;clear c28;obtain ⟨y274,hy274⟩ : ∃ y_ : List Int,y_ = (x9_5 ++ [wrap64 ((rd t266 x10_5) * (wrap64 (1 - (wrap64 (2 * x8_4)))))]):=⟨_,rfl⟩
                          replace H : (spec_l6Corners.l4 k5 l0 x3_4 x4_1 x5_2 x6_3 t266 x8_4 y274 (wrap64 (x10_5 + 1))) = some r:=by (rw [hy274];with_reducible exact H)
                          have Ny274:=Aside0.mk hy274;clear hy274;have H':=Aside0.mk H;clear H;have p273 : 0 ≤ (x10_5 : Int):=of_decide_eq_true (by (with_reducible assumption));have q273 : x10_5 < (t266.length : Int):=of_decide_eq_true (by (with_reducible assumption));obtain ⟨ad273,e273,hx273_0⟩:=Kd.at_int (Kd.R_reads' HO_7.out).2.2 x10_5 p273 q273;cases e273;replace p273:=eq_true p273;replace q273:=eq_true q273;go_wp2_with (((with_reducible refine gate_builtin (b:=.append) (xs:=#[.tmp 57,.tmp 66]) rfl ?_);at_builtin;refine Kd.R_append (Kd.int .i64) (w0:=w) w.heap.size rfl (.tmp 57) (.tmp 66) 29 3 (.int .i64 0) 8 rfl Try.underlying29 info3 rfl (by decide) (by omega) u9 x9_5 (wrap64 ((rd t266 x10_5) * (wrap64 (1 - (wrap64 (2 * x8_4)))))) [.int .i64 (wrap64 ((rd t266 x10_5) * (wrap64 (1 - (wrap64 (2 * x8_4))))))] (fun k_ => some k_ ≠ (.slice (some ad273) t266.length co21 : Value).ownBlock) (fun _ => False) rfl rfl ?aP (fun _ hk => hk.elim) ?aF ?aO ?aB ?aS ?aL ?_;(case aP => exact rfl);(case aB => exact (belU HB.out));(case aF => exact (fun k_ hk => Kd.fresh' (Kd.R_lt (rU HO_7.out)) k_ hk));(case aO => exact (rU HO_9.out));(case aS => exact (below_size (belU HB.out)));(case aL => have:=LMc28.out;omega);intro v275 w29 ho hb hg hat;rw [← Ny274.out] at ho;replace HO_3:=Aside0.mk (Kd.S_after (ok:=(fun k_ => some k_ ≠ (.slice (some ad273) t266.length co21 : Value).ownBlock)) (by exact HO_3.out) hg hat);replace HO_7:=Aside0.mk (Kd.R_after (ok:=(fun _ => True)) (by exact Kd.R_mono HO_7.out (fun _ hk => ⟨trivial,hk⟩)) hg hat);replace HB:=Aside0.mk (hb);have HO276:=Aside0.mk (ho);clear HO_9 ho hb hg hat))
                          go_roundg k5;case measure => have:=HK1.out;have:=HK2.out;have:=HK3.out;have:=HK4.out;have:=HK5.out;omega
                          case rel => exact ⟨(y274),(wrap64 (x10_5 + 1)),(by rfl),H',⟨by have:=HK1.out;have:=HK2.out;have:=HK3.out;have:=HK4.out;have:=HK5.out;omega⟩,⟨by exact HO_3.out⟩,⟨by exact Kd.R_mono HO_7.out (fun _ hk => hk.2)⟩,⟨rU HO276.out⟩,⟨belU HB.out⟩⟩
                         ·
                          rw [if_neg c28] at H;exact absurd H (by simp)
                        ·
                         rw [if_neg c27] at H;exact absurd H (by simp)
                       ·
                        rw [if_neg c26] at H;exact absurd H (by simp)
                      ·
                       rw [if_neg c25] at H;have c25b0 : decide (x10_5 < 4) = false:=decide_eq_false c25;clear c25;replace H:=Option.bind_eq_some_iff.mp H;obtain ⟨t277,A300,H⟩:=H;have A30:=Aside0.mk A300;clear A300;have H':=Aside0.mk H;clear H;obtain ⟨Ao31,co31,eo31⟩:=Kd.R_slice HO_9.out;subst eo31;go_wp2_with (((with_reducible refine gate_callee (f:=63) rfl ?_);refine goesL_ (some 69) rfl rfl Try.func63 (by kernel_rfl) rfl #[.slice Ao31 x9_5.length co31] rfl (by (try simp only [List.map_toArray,List.map_cons,List.map_nil]);rfl) ?_;(with_reducible refine (spec_l6Lower.calls k5 _ _ x9_5 t277 _ ?side1 ?side2 A30.out).mono ?_);(case side1 => exact cU (Kd.R_reads' HO_9.out).2.2);(case side2 => exact (Kd.R_reads' HO_9.out).2.1);rintro e w32 ⟨v278,rfl,ho0,hb⟩;refine ⟨_,rfl,?_⟩;replace HO_3:=Aside0.mk (Kd.S_elder' (by exact HO_3.out) (Kd.R_base ho0) hb);have HO279:=Aside0.mk (Kd.R_lower (Kd.R_new' (Kd.R_new' ho0 (Kd.R_lt (rU HO_7.out))) (Kd.R_lt (rU HO_9.out))) (below_size (belU HB.out)));replace HO_7:=Aside0.mk (Kd.R_elder' (rU HO_7.out) (Kd.R_base ho0) hb);replace HO_9:=Aside0.mk (Kd.R_elder' (rU HO_9.out) (Kd.R_base ho0) hb);replace HB:=Aside0.mk (below_step (belU HB.out) hb);(try clear hb);(try clear ho0)))
                       go_loopg [11,12] k5 (fun kq v11 v12 w' => ∃ (x11_6 : Bool) (x12_6 : Int),v11 = .bool x11_6 ∧ v12 = .int .i64 x12_6 ∧ Aside0 (spec_l6Corners.l5 kq l0 x3_4 x4_1 x5_2 x6_3 t266 x8_4 t277 x11_6 x12_6 = some r) ∧ Aside0 (kq ≤ k5) ∧ Aside0 (Kd.S (Kd.slice 3 (Kd.int .i64)) 29 w' w.heap.size (fun k_ => some k_ ≠ ((.slice Ao21 t266.length co21) : Value).ownBlock ∧ some k_ ≠ (v278 : Value).ownBlock) u3 x3_4) ∧ Aside0 (Kd.R (Kd.int .i64) 3 w' w.heap.size (fun k_ => some k_ ≠ (v278 : Value).ownBlock) (.slice Ao21 t266.length co21) t266) ∧ Aside0 (Kd.R (Kd.int .i64) 3 w' w.heap.size (fun k_ => some k_ ≠ ((.slice Ao21 t266.length co21) : Value).ownBlock) v278 t277) ∧ Aside0 (Below w.heap.size w w'));case atStart => exact ⟨(true),(0),(by rfl),(by rfl),H',⟨Nat.le_refl _⟩,⟨by exact Kd.S_mono HO_3.out (fun _ hk => ⟨hk.1.1,hk.2⟩)⟩,⟨by exact Kd.R_mono HO_7.out (fun _ hk => hk.2)⟩,⟨by exact Kd.R_mono HO279.out (fun _ hk => hk.1.2)⟩,⟨belU HB.out⟩⟩
                       case round =>
                        clear H';clear c25b0;obtain ⟨x11_6,x12_6,rfl,rfl,HA,HK6,HO_3,HO_7,HO_9,HB⟩:=hrel;cases gk with
                        | zero => exact absurd HA.out (by simp [spec_l6Corners.l5])
                        | succ k6 =>
                         have H:=HA.out;clear HA;simp only [spec_l6Corners.l5] at H;by_cases c33 : x12_6 < (l0.length : Int)
                         ·
                          rw [if_pos c33] at H;have c33b0 : decide (x12_6 < (l0.length : Int)) = true:=decide_eq_true c33;clear c33;by_cases c34 : x11_6 = true
                          ·
                           subst c34;have H1 : (if 0 ≤ x12_6 then ((spec_l6Dot.f k6 (rd_L5 l0 x12_6) t277).bind fun t281 => (spec_l6Corners.l5 k6 l0 x3_4 x4_1 x5_2 x6_3 t266 x8_4 t277 (decide (t281 ≥ 0)) (wrap64 (x12_6 + 1)))) else (none)) = some r:=by rw [if_pos rfl] at H;exact H
                           clear H;have H:=H1;clear H1;by_cases c35 : 0 ≤ x12_6
                           ·
                            rw [if_pos c35] at H;have c35b0 : decide (0 ≤ x12_6) = true:=decide_eq_true c35;clear c35;replace H:=Option.bind_eq_some_iff.mp H;obtain ⟨t281,A360,H⟩:=H;have A36:=Aside0.mk A360;clear A360;have H':=Aside0.mk H;clear H;have p280 : 0 ≤ (x12_6 : Int):=of_decide_eq_true (by (with_reducible assumption));have q280 : x12_6 < (l0.length : Int):=of_decide_eq_true (by (with_reducible assumption));obtain ⟨ad280,A280_0,c280_0,e280,hx280_0,hl280_0,hi280_0⟩:=at_L5 HR0.out x12_6 p280 q280;obtain rfl : ad263 = ad280:=(by injection e280)
                            replace hx280_0:=(HB.out.cell (World.block_lt_of_cell? w _ hx280_0)).trans hx280_0;have HR280_0:=Aside0.mk hi280_0;have HC280_0:=Aside0.mk hl280_0;clear hi280_0 hl280_0;replace p280:=eq_true p280;replace q280:=eq_true q280;obtain ⟨Ao37,co37,eo37⟩:=Kd.R_slice HO_9.out;subst eo37;go_wp2_with ((go_at_call 51;(with_reducible refine (spec_l6Dot.calls k6 _ _ (rd_L5 l0 x12_6) _ _ t277 t281 _ ?side1 ?side2 ?side3 ?side4 A36.out).mono ?_);(case side1 => exact cU (Kd.C_below HR280_0.out HB.out));(case side2 => exact HC280_0.out);(case side3 => exact cU (Kd.R_reads' HO_9.out).2.2);(case side4 => exact (Kd.R_reads' HO_9.out).2.1);rintro e w' ⟨rfl,⟨nd,rfl⟩⟩))
                            go_roundg k6;case measure => have:=HK1.out;have:=HK2.out;have:=HK3.out;have:=HK4.out;have:=HK5.out;have:=HK6.out;omega
                            case rel => exact ⟨(decide (t281 ≥ 0)),(wrap64 (x12_6 + 1)),(by rfl),(by rfl),H',⟨by have:=HK1.out;have:=HK2.out;have:=HK3.out;have:=HK4.out;have:=HK5.out;have:=HK6.out;omega⟩,⟨by (with_reducible repeat (apply Kd.S_drewN));exact HO_3.out⟩,⟨rU HO_7.out⟩,⟨rU HO_9.out⟩,⟨belU HB.out⟩⟩
                           ·
                            rw [if_neg c35] at H;exact absurd H (by simp)
                          ·
                           replace c34:=Bool.eq_false_iff.mpr c34;subst c34;have H1 : (spec_l6Corners.l5 k6 l0 x3_4 x4_1 x5_2 x6_3 t266 x8_4 t277 false (wrap64 (x12_6 + 1))) = some r:=by rw [if_neg (show ¬ (false = true) by decide)] at H;exact H
                           clear H;have H:=H1;clear H1;have H':=Aside0.mk H;clear H;go_wp2;go_roundg k6;case measure => have:=HK1.out;have:=HK2.out;have:=HK3.out;have:=HK4.out;have:=HK5.out;have:=HK6.out;omega
                           case rel => exact ⟨(false),(wrap64 (x12_6 + 1)),(by rfl),(by rfl),H',⟨by have:=HK1.out;have:=HK2.out;have:=HK3.out;have:=HK4.out;have:=HK5.out;have:=HK6.out;omega⟩,⟨by exact HO_3.out⟩,⟨rU HO_7.out⟩,⟨rU HO_9.out⟩,⟨belU HB.out⟩⟩
                         ·
                          rw [if_neg c33] at H;have c33b0 : decide (x12_6 < (l0.length : Int)) = false:=decide_eq_false c33;clear c33;have H':=Aside0.mk H;clear H;go_wp2;go_loopg [11,13] k6 (fun kq v11 v13 w' => ∃ (x11_7 : Bool) (x13_7 : Int),v11 = .bool x11_7 ∧ v13 = .int .i64 x13_7 ∧ Aside0 (spec_l6Corners.l6 kq l0 x3_4 x4_1 x5_2 x6_3 t266 x8_4 t277 x11_7 x13_7 = some r) ∧ Aside0 (kq ≤ k6) ∧ Aside0 (Kd.S (Kd.slice 3 (Kd.int .i64)) 29 w' w.heap.size (fun k_ => some k_ ≠ ((.slice Ao21 t266.length co21) : Value).ownBlock ∧ some k_ ≠ (v278 : Value).ownBlock) u3 x3_4) ∧ Aside0 (Kd.R (Kd.int .i64) 3 w' w.heap.size (fun k_ => some k_ ≠ (v278 : Value).ownBlock) (.slice Ao21 t266.length co21) t266) ∧ Aside0 (Kd.R (Kd.int .i64) 3 w' w.heap.size (fun k_ => some k_ ≠ ((.slice Ao21 t266.length co21) : Value).ownBlock) v278 t277) ∧ Aside0 (Below w.heap.size w w'));case atStart => exact ⟨(x11_6),(0),(by rfl),(by rfl),H',⟨Nat.le_refl _⟩,⟨by exact HO_3.out⟩,⟨rU HO_7.out⟩,⟨rU HO_9.out⟩,⟨belU HB.out⟩⟩
                          case round =>
                           clear H';clear c33b0;obtain ⟨x11_7,x13_7,rfl,rfl,HA,HK7,HO_3,HO_7,HO_9,HB⟩:=hrel;cases gk with
                           | zero => exact absurd HA.out (by simp [spec_l6Corners.l6])
                           | succ k7 =>
                            have H:=HA.out;clear HA;simp only [spec_l6Corners.l6] at H;by_cases c38 : x13_7 < (x3_4.length : Int)
                            ·
                             rw [if_pos c38] at H;have c38b0 : decide (x13_7 < (x3_4.length : Int)) = true:=decide_eq_true c38;clear c38;by_cases c39 : x11_7 = true
                             ·
                              subst c39;have H1 : (if 0 ≤ x13_7 then ((spec_l6Dot.f k7 (rd_L5 x3_4 x13_7) (rd_L5 x3_4 x13_7)).bind fun t287 => ((spec_l6Dot.f k7 t277 t277).bind fun t288 => ((spec_l6Dot.f k7 (rd_L5 x3_4 x13_7) t277).bind fun t290 => ((spec_l6Dot.f k7 (rd_L5 x3_4 x13_7) t277).bind fun t292 => (spec_l6Corners.l6 k7 l0 x3_4 x4_1 x5_2 x6_3 t266 x8_4 t277 ((wrap64 (t287 * t288)) != (wrap64 (t290 * t292))) (wrap64 (x13_7 + 1))))))) else (none)) = some r:=by rw [if_pos rfl] at H;exact H
                              clear H;have H:=H1;clear H1;by_cases c40 : 0 ≤ x13_7
                              ·
                               rw [if_pos c40] at H;have c40b0 : decide (0 ≤ x13_7) = true:=decide_eq_true c40;clear c40;replace H:=Option.bind_eq_some_iff.mp H;obtain ⟨t287,A410,H⟩:=H;have A41:=Aside0.mk A410;clear A410;replace H:=Option.bind_eq_some_iff.mp H;obtain ⟨t288,A420,H⟩:=H;have A42:=Aside0.mk A420;clear A420;replace H:=Option.bind_eq_some_iff.mp H;obtain ⟨t290,A430,H⟩:=H;have A43:=Aside0.mk A430;clear A430;replace H:=Option.bind_eq_some_iff.mp H;obtain ⟨t292,A440,H⟩:=H;have A44:=Aside0.mk A440;clear A440;have H':=Aside0.mk H;clear H;obtain ⟨Ao45,co45,eo45⟩:=Kd.S_slice HO_3.out;subst eo45;try go_wp2
                               replace HO_3:=Aside0.mk (Kd.S_drew HO_3.out);replace HO_7:=Aside0.mk (Kd.R_drew HO_7.out);replace HO_9:=Aside0.mk (Kd.R_drew HO_9.out);replace HB:=Aside0.mk (below_drew1 HB.out);have p285 : 0 ≤ (x13_7 : Int):=of_decide_eq_true (by (with_reducible assumption));have q285 : x13_7 < (x3_4.length : Int):=of_decide_eq_true (by (with_reducible assumption));obtain ⟨ad285,A285_0,c285_0,e285,hx285_0,hl285_0,hi285_0⟩:=at_L5 (Kd.S_reads' HO_3.out).2.2 x13_7 p285 q285;cases e285;obtain ⟨ce285,hce285,hMe285,hcc285⟩:=Kd.S_get HO_3.out [] x13_7 p285 (by exact q285);obtain ⟨ve285_0,rfl,ge285_0⟩:=hMe285;have hv285_0:=hcc285 0 _ rfl;rw [Nat.add_zero,show ((Kd.slice 3 (Kd.int .i64))).sz = 1 from rfl,Nat.mul_one] at hv285_0;replace hv285_0:=Option.some.inj (hv285_0.symm.trans hx285_0);rw [hv285_0] at ge285_0;have HL285_0:=Aside0.mk (show Kd.R (Kd.int .i64) 3 _ _ _ _ (rd_L5 x3_4 x13_7) from ge285_0);clear hv285_0 ge285_0 hcc285 hce285;have HR285_0:=Aside0.mk hi285_0;have HC285_0:=Aside0.mk hl285_0;clear hi285_0 hl285_0;replace p285:=eq_true p285;replace q285:=eq_true q285;have p286 : 0 ≤ (x13_7 : Int):=of_decide_eq_true (by (with_reducible assumption));have q286 : x13_7 < (x3_4.length : Int):=of_decide_eq_true (by (with_reducible assumption));obtain ⟨ad286,A286_0,c286_0,e286,hx286_0,hl286_0,hi286_0⟩:=at_L5 (Kd.S_reads' HO_3.out).2.2 x13_7 p286 q286;obtain rfl : ad285 = ad286:=(by injection e286)
                               obtain ⟨ce286,hce286,hMe286,hcc286⟩:=Kd.S_get HO_3.out [] x13_7 p286 (by exact q286);obtain ⟨ve286_0,rfl,ge286_0⟩:=hMe286;have hv286_0:=hcc286 0 _ rfl;rw [Nat.add_zero,show ((Kd.slice 3 (Kd.int .i64))).sz = 1 from rfl,Nat.mul_one] at hv286_0;replace hv286_0:=Option.some.inj (hv286_0.symm.trans hx286_0);rw [hv286_0] at ge286_0;have HL286_0:=Aside0.mk (show Kd.R (Kd.int .i64) 3 _ _ _ _ (rd_L5 x3_4 x13_7) from ge286_0);clear hv286_0 ge286_0 hcc286 hce286;have HR286_0:=Aside0.mk hi286_0;have HC286_0:=Aside0.mk hl286_0;clear hi286_0 hl286_0;replace p286:=eq_true p286;replace q286:=eq_true q286;have ea_:=Option.some.inj (hx285_0.symm.trans hx286_0);injection ea_ with ea_ en_ ec_;subst ea_;subst ec_;clear en_;have p289 : 0 ≤ (x13_7 : Int):=of_decide_eq_true (by (with_reducible assumption));have q289 : x13_7 < (x3_4.length : Int):=of_decide_eq_true (by (with_reducible assumption));obtain ⟨ad289,A289_0,c289_0,e289,hx289_0,hl289_0,hi289_0⟩:=at_L5 (Kd.S_reads' HO_3.out).2.2 x13_7 p289 q289;obtain rfl : ad285 = ad289:=(by injection e289)
                               obtain ⟨ce289,hce289,hMe289,hcc289⟩:=Kd.S_get HO_3.out [] x13_7 p289 (by exact q289);obtain ⟨ve289_0,rfl,ge289_0⟩:=hMe289;have hv289_0:=hcc289 0 _ rfl;rw [Nat.add_zero,show ((Kd.slice 3 (Kd.int .i64))).sz = 1 from rfl,Nat.mul_one] at hv289_0;replace hv289_0:=Option.some.inj (hv289_0.symm.trans hx289_0);rw [hv289_0] at ge289_0;have HL289_0:=Aside0.mk (show Kd.R (Kd.int .i64) 3 _ _ _ _ (rd_L5 x3_4 x13_7) from ge289_0);clear hv289_0 ge289_0 hcc289 hce289;have HR289_0:=Aside0.mk hi289_0;have HC289_0:=Aside0.mk hl289_0;clear hi289_0 hl289_0;replace p289:=eq_true p289;replace q289:=eq_true q289;have ea_:=Option.some.inj (hx285_0.symm.trans hx289_0);injection ea_ with ea_ en_ ec_;subst ea_;subst ec_;clear en_;have p291 : 0 ≤ (x13_7 : Int):=of_decide_eq_true (by (with_reducible assumption));have q291 : x13_7 < (x3_4.length : Int):=of_decide_eq_true (by (with_reducible assumption));obtain ⟨ad291,A291_0,c291_0,e291,hx291_0,hl291_0,hi291_0⟩:=at_L5 (Kd.S_reads' HO_3.out).2.2 x13_7 p291 q291;obtain rfl : ad285 = ad291:=(by injection e291)
                               obtain ⟨ce291,hce291,hMe291,hcc291⟩:=Kd.S_get HO_3.out [] x13_7 p291 (by exact q291);obtain ⟨ve291_0,rfl,ge291_0⟩:=hMe291;have hv291_0:=hcc291 0 _ rfl;rw [Nat.add_zero,show ((Kd.slice 3 (Kd.int .i64))).sz = 1 from rfl,Nat.mul_one] at hv291_0;replace hv291_0:=Option.some.inj (hv291_0.symm.trans hx291_0);rw [hv291_0] at ge291_0;have HL291_0:=Aside0.mk (show Kd.R (Kd.int .i64) 3 _ _ _ _ (rd_L5 x3_4 x13_7) from ge291_0);clear hv291_0 ge291_0 hcc291 hce291;have HR291_0:=Aside0.mk hi291_0;have HC291_0:=Aside0.mk hl291_0;clear hi291_0 hl291_0;replace p291:=eq_true p291;replace q291:=eq_true q291;have ea_:=Option.some.inj (hx285_0.symm.trans hx291_0);injection ea_ with ea_ en_ ec_;subst ea_;subst ec_;clear en_;refine start_ (n:=31) (S:=fun w' => w'.cell? (ad285.add (x13_7).toNat) = some (.slice A285_0 (rd_L5 x3_4 x13_7).length c285_0) ∧ w'.cell? (ad285.add (x13_7).toNat) = some (.slice A285_0 (rd_L5 x3_4 x13_7).length c285_0) ∧ w'.cell? (ad285.add (x13_7).toNat) = some (.slice A285_0 (rd_L5 x3_4 x13_7).length c285_0) ∧ w'.cell? (ad285.add (x13_7).toNat) = some (.slice A285_0 (rd_L5 x3_4 x13_7).length c285_0)) (ds:=[]) #[false,false,false,false,false,false,false,false,false,false,false,false,false,false,false,false,false,false,false,false,false,false,false,false,false,false,false,false,false,false,false] (by kernel_rfl) rfl rfl ⟨hx285_0,hx286_0,hx289_0,hx291_0⟩ (fun hHeld => ?_);refine with_tabW spec_l6Corners.tab30 spec_l6Corners.bits30 (fun HT_ HW_ => ?_);generalize wr.drew = w46 at HO_3 HO_7 HO_9 HB HL285_0 HL286_0 HL289_0 HL291_0 HR285_0 HR286_0 HR289_0 HR291_0 hx285_0 hx286_0 hx289_0 hx291_0 hHeld ⊢;refine pure_ (i:=0) (N:=some 92) (v:=?_) (a':=?_) #[true,false,false,false,false,false,false,false,false,false,false,false,false,false,false,false,false,false,false,false,false,false,false,false,false,false,false,false,false,false,false] rfl rfl (any_of HT_.out (by kernel_rfl)) (fun _ _ _ h => h) (Or.inl ⟨by rfl,?_⟩) ?_ ?_;rotate_left
                               ·
                                intro w';go_simp
                                with_reducible rfl
                               rotate_left
                               ·
                                simp only [Act.put,List.setIfInBounds_toArray,List.set_cons_zero,List.set_cons_succ,i64_w,i32_w];rfl
                               refine pure_ (i:=1) (N:=some 93) (v:=?_) (a':=?_) #[true,true,false,false,false,false,false,false,false,false,false,false,false,false,false,false,false,false,false,false,false,false,false,false,false,false,false,false,false,false,false] rfl rfl (any_of HT_.out (by kernel_rfl)) (fun _ _ _ h => h) (Or.inl ⟨by rfl,?_⟩) ?_ ?_;rotate_left
                               ·
                                intro w';go_simp
                                with_reducible rfl
                               rotate_left
                               ·
                                simp only [Act.put,List.setIfInBounds_toArray,List.set_cons_zero,List.set_cons_succ,i64_w,i32_w];rfl
                               refine pure_ (i:=2) (N:=some 94) (v:=?_) (a':=?_) #[true,true,true,false,false,false,false,false,false,false,false,false,false,false,false,false,false,false,false,false,false,false,false,false,false,false,false,false,false,false,false] rfl rfl (any_of HT_.out (by kernel_rfl)) (fun _ _ _ h => h) (Or.inl ⟨by rfl,?_⟩) ?_ ?_;rotate_left
                               ·
                                intro w';go_simp
                                with_reducible rfl
                               rotate_left
                               ·
                                simp only [Act.put,List.setIfInBounds_toArray,List.set_cons_zero,List.set_cons_succ,i64_w,i32_w];rfl
                               refine pure_ (i:=3) (N:=some 95) (v:=?_) (a':=?_) #[true,true,true,true,false,false,false,false,false,false,false,false,false,false,false,false,false,false,false,false,false,false,false,false,false,false,false,false,false,false,false] rfl rfl (any_of HT_.out (by kernel_rfl)) (fun _ _ _ h => h) (Or.inl ⟨by rfl,?_⟩) ?_ ?_;rotate_left
                               ·
                                intro w';go_simp
                                with_reducible rfl
                               rotate_left
                               ·
                                simp only [Act.put,List.setIfInBounds_toArray,List.set_cons_zero,List.set_cons_succ,i64_w,i32_w];rfl
                               refine pure_ (i:=4) (N:=some 96) (v:=?_) (a':=?_) #[true,true,true,true,true,false,false,false,false,false,false,false,false,false,false,false,false,false,false,false,false,false,false,false,false,false,false,false,false,false,false] rfl rfl (any_of HT_.out (by kernel_rfl)) (fun _ _ _ h => h) (Or.inl ⟨by rfl,?_⟩) ?_ ?_;rotate_left
                               ·
                                intro w';go_simp
                                with_reducible rfl
                               rotate_left
                               ·
                                simp only [Act.put,List.setIfInBounds_toArray,List.set_cons_zero,List.set_cons_succ,i64_w,i32_w];rfl
                               refine pure_ (i:=6) (N:=some 98) (v:=?_) (a':=?_) #[true,true,true,true,true,false,true,false,false,false,false,false,false,false,false,false,false,false,false,false,false,false,false,false,false,false,false,false,false,false,false] rfl rfl (any_of HT_.out (by kernel_rfl)) (fun _ _ _ h => h) (Or.inl ⟨by rfl,?_⟩) ?_ ?_;rotate_left
                               ·
                                intro w';go_simp
                                with_reducible rfl
                               rotate_left
                               ·
                                simp only [Act.put,List.setIfInBounds_toArray,List.set_cons_zero,List.set_cons_succ,i64_w,i32_w];rfl
                               refine pure_ (i:=7) (N:=some 99) (v:=?_) (a':=?_) #[true,true,true,true,true,false,true,true,false,false,false,false,false,false,false,false,false,false,false,false,false,false,false,false,false,false,false,false,false,false,false] rfl rfl (any_of HT_.out (by kernel_rfl)) (fun _ _ _ h => h) (Or.inl ⟨by rfl,?_⟩) ?_ ?_;rotate_left
                               ·
                                intro w';go_simp
                                with_reducible rfl
                               rotate_left
                               ·
                                simp only [Act.put,List.setIfInBounds_toArray,List.set_cons_zero,List.set_cons_succ,i64_w,i32_w];rfl
                               refine pure_ (i:=8) (N:=some 100) (v:=?_) (a':=?_) #[true,true,true,true,true,false,true,true,true,false,false,false,false,false,false,false,false,false,false,false,false,false,false,false,false,false,false,false,false,false,false] rfl rfl (any_of HT_.out (by kernel_rfl)) (fun _ _ _ h => h) (Or.inl ⟨by rfl,?_⟩) ?_ ?_;rotate_left
                               ·
                                intro w';go_simp
                                with_reducible rfl
                               rotate_left
                               ·
                                simp only [Act.put,List.setIfInBounds_toArray,List.set_cons_zero,List.set_cons_succ,i64_w,i32_w];rfl
                               refine pure_ (i:=11) (N:=some 103) (v:=?_) (a':=?_) #[true,true,true,true,true,false,true,true,true,false,false,true,false,false,false,false,false,false,false,false,false,false,false,false,false,false,false,false,false,false,false] rfl rfl (any_of HT_.out (by kernel_rfl)) (fun _ _ _ h => h) (Or.inl ⟨by rfl,?_⟩) ?_ ?_;rotate_left
                               ·
                                intro w';go_simp
                                with_reducible rfl
                               rotate_left
                               ·
                                simp only [Act.put,List.setIfInBounds_toArray,List.set_cons_zero,List.set_cons_succ,i64_w,i32_w];rfl
                               refine pure_ (i:=12) (N:=some 104) (v:=?_) (a':=?_) #[true,true,true,true,true,false,true,true,true,false,false,true,true,false,false,false,false,false,false,false,false,false,false,false,false,false,false,false,false,false,false] rfl rfl (any_of HT_.out (by kernel_rfl)) (fun _ _ _ h => h) (Or.inl ⟨by rfl,?_⟩) ?_ ?_;rotate_left
                               ·
                                intro w';go_simp
                                with_reducible rfl
                               rotate_left
                               ·
                                simp only [Act.put,List.setIfInBounds_toArray,List.set_cons_zero,List.set_cons_succ,i64_w,i32_w];rfl
                               refine pure_ (i:=15) (N:=some 107) (v:=?_) (a':=?_) #[true,true,true,true,true,false,true,true,true,false,false,true,true,false,false,true,false,false,false,false,false,false,false,false,false,false,false,false,false,false,false] rfl rfl (any_of HT_.out (by kernel_rfl)) (fun _ _ _ h => h) (Or.inl ⟨by rfl,?_⟩) ?_ ?_;rotate_left
                               ·
                                intro w';go_simp
                                with_reducible rfl
                               rotate_left
                               ·
                                simp only [Act.put,List.setIfInBounds_toArray,List.set_cons_zero,List.set_cons_succ,i64_w,i32_w];rfl
                               refine pure_ (i:=16) (N:=some 108) (v:=?_) (a':=?_) #[true,true,true,true,true,false,true,true,true,false,false,true,true,false,false,true,true,false,false,false,false,false,false,false,false,false,false,false,false,false,false] rfl rfl (any_of HT_.out (by kernel_rfl)) (fun _ _ _ h => h) (Or.inl ⟨by rfl,?_⟩) ?_ ?_;rotate_left
                               ·
                                intro w';go_simp
                                with_reducible rfl
                               rotate_left
                               ·
                                simp only [Act.put,List.setIfInBounds_toArray,List.set_cons_zero,List.set_cons_succ,i64_w,i32_w];rfl
                               refine pure_ (i:=17) (N:=some 109) (v:=?_) (a':=?_) #[true,true,true,true,true,false,true,true,true,false,false,true,true,false,false,true,true,true,false,false,false,false,false,false,false,false,false,false,false,false,false] rfl rfl (any_of HT_.out (by kernel_rfl)) (fun _ _ _ h => h) (Or.inl ⟨by rfl,?_⟩) ?_ ?_;rotate_left
                               ·
                                intro w';go_simp
                                with_reducible rfl
                               rotate_left
                               ·
                                simp only [Act.put,List.setIfInBounds_toArray,List.set_cons_zero,List.set_cons_succ,i64_w,i32_w];rfl
                               refine pure_ (i:=19) (N:=some 111) (v:=?_) (a':=?_) #[true,true,true,true,true,false,true,true,true,false,false,true,true,false,false,true,true,true,false,true,false,false,false,false,false,false,false,false,false,false,false] rfl rfl (any_of HT_.out (by kernel_rfl)) (fun _ _ _ h => h) (Or.inl ⟨by rfl,?_⟩) ?_ ?_;rotate_left
                               ·
                                intro w';go_simp
                                with_reducible rfl
                               rotate_left
                               ·
                                simp only [Act.put,List.setIfInBounds_toArray,List.set_cons_zero,List.set_cons_succ,i64_w,i32_w];rfl
                               refine pure_ (i:=21) (N:=some 113) (v:=?_) (a':=?_) #[true,true,true,true,true,false,true,true,true,false,false,true,true,false,false,true,true,true,false,true,false,true,false,false,false,false,false,false,false,false,false] rfl rfl (any_of HT_.out (by kernel_rfl)) (fun _ _ _ h => h) (Or.inl ⟨by rfl,?_⟩) ?_ ?_;rotate_left
                               ·
                                intro w';go_simp
                                with_reducible rfl
                               rotate_left
                               ·
                                simp only [Act.put,List.setIfInBounds_toArray,List.set_cons_zero,List.set_cons_succ,i64_w,i32_w];rfl
                               refine pure_ (i:=22) (N:=some 114) (v:=?_) (a':=?_) #[true,true,true,true,true,false,true,true,true,false,false,true,true,false,false,true,true,true,false,true,false,true,true,false,false,false,false,false,false,false,false] rfl rfl (any_of HT_.out (by kernel_rfl)) (fun _ _ _ h => h) (Or.inl ⟨by rfl,?_⟩) ?_ ?_;rotate_left
                               ·
                                intro w';go_simp
                                with_reducible rfl
                               rotate_left
                               ·
                                simp only [Act.put,List.setIfInBounds_toArray,List.set_cons_zero,List.set_cons_succ,i64_w,i32_w];rfl
                               refine pure_ (i:=23) (N:=some 115) (v:=?_) (a':=?_) #[true,true,true,true,true,false,true,true,true,false,false,true,true,false,false,true,true,true,false,true,false,true,true,true,false,false,false,false,false,false,false] rfl rfl (any_of HT_.out (by kernel_rfl)) (fun _ _ _ h => h) (Or.inl ⟨by rfl,?_⟩) ?_ ?_;rotate_left
                               ·
                                intro w';go_simp
                                with_reducible rfl
                               rotate_left
                               ·
                                simp only [Act.put,List.setIfInBounds_toArray,List.set_cons_zero,List.set_cons_succ,i64_w,i32_w];rfl
                               refine pure_ (i:=25) (N:=some 117) (v:=?_) (a':=?_) #[true,true,true,true,true,false,true,true,true,false,false,true,true,false,false,true,true,true,false,true,false,true,true,true,false,true,false,false,false,false,false] rfl rfl (any_of HT_.out (by kernel_rfl)) (fun _ _ _ h => h) (Or.inl ⟨by rfl,?_⟩) ?_ ?_;rotate_left
                               ·
                                intro w';go_simp
                                with_reducible rfl
                               rotate_left
                               ·
                                simp only [Act.put,List.setIfInBounds_toArray,List.set_cons_zero,List.set_cons_succ,i64_w,i32_w];rfl
                               refine take_ (i:=5) (N:=some 97) (v:=?_) (a':=?_) #[true,true,true,true,true,true,true,true,true,false,false,true,true,false,false,true,true,true,false,true,false,true,true,true,false,true,false,false,false,false,false] rfl rfl (take_ofW HT_.out HW_.out (by kernel_rfl)) (fun _ _ _ h => h) (Or.inl ⟨by rfl,?_⟩) hHeld ?_ ?_;rotate_left
                               ·
                                rintro w' ⟨s0,s1,s2,s3⟩;go_simp
                                with_reducible rfl
                               rotate_left
                               ·
                                simp only [Act.put,List.setIfInBounds_toArray,List.set_cons_zero,List.set_cons_succ,i64_w,i32_w];rfl
                               refine take_ (i:=9) (N:=some 101) (v:=?_) (a':=?_) #[true,true,true,true,true,true,true,true,true,true,false,true,true,false,false,true,true,true,false,true,false,true,true,true,false,true,false,false,false,false,false] rfl rfl (take_ofW HT_.out HW_.out (by kernel_rfl)) (fun _ _ _ h => h) (Or.inl ⟨by rfl,?_⟩) hHeld ?_ ?_;rotate_left
                               ·
                                rintro w' ⟨s0,s1,s2,s3⟩;go_simp
                                with_reducible rfl
                               rotate_left
                               ·
                                simp only [Act.put,List.setIfInBounds_toArray,List.set_cons_zero,List.set_cons_succ,i64_w,i32_w];rfl
                               refine take_ (i:=18) (N:=some 110) (v:=?_) (a':=?_) #[true,true,true,true,true,true,true,true,true,true,false,true,true,false,false,true,true,true,true,true,false,true,true,true,false,true,false,false,false,false,false] rfl rfl (take_ofW HT_.out HW_.out (by kernel_rfl)) (fun _ _ _ h => h) (Or.inl ⟨by rfl,?_⟩) hHeld ?_ ?_;rotate_left
                               ·
                                rintro w' ⟨s0,s1,s2,s3⟩;go_simp
                                with_reducible rfl
                               rotate_left
                               ·
                                simp only [Act.put,List.setIfInBounds_toArray,List.set_cons_zero,List.set_cons_succ,i64_w,i32_w];rfl
                               refine take_ (i:=24) (N:=some 116) (v:=?_) (a':=?_) #[true,true,true,true,true,true,true,true,true,true,false,true,true,false,false,true,true,true,true,true,false,true,true,true,true,true,false,false,false,false,false] rfl rfl (take_ofW HT_.out HW_.out (by kernel_rfl)) (fun _ _ _ h => h) (Or.inl ⟨by rfl,?_⟩) hHeld ?_ ?_;rotate_left
                               ·
                                rintro w' ⟨s0,s1,s2,s3⟩;go_simp
                                with_reducible rfl
                               rotate_left
                               ·
                                simp only [Act.put,List.setIfInBounds_toArray,List.set_cons_zero,List.set_cons_succ,i64_w,i32_w];rfl
                               refine one_ (i:=10) (N:=some 102) #[true,true,true,true,true,true,true,true,true,true,true,true,true,false,false,true,true,true,true,true,false,true,true,true,true,true,false,false,false,false,false] rfl rfl (one_of HT_.out (by kernel_rfl)) (by decide) (fun K hK => ?_);refine goes_ Try.func51 (by kernel_rfl) rfl #[.slice A285_0 (rd_L5 x3_4 x13_7).length c285_0,.slice A285_0 (rd_L5 x3_4 x13_7).length c285_0] (by rfl) rfl rfl (by (try simp only [List.map_toArray,List.map_cons,List.map_nil]);rfl) ?_
                               with_reducible refine (spec_l6Dot.calls k7 _ _ (rd_L5 x3_4 x13_7) _ _ (rd_L5 x3_4 x13_7) t287 _ ?side1 ?side2 ?side3 ?side4 A41.out).mono ?_
                               (case side1 => repeat (exact HR285_0.out));(case side2 => exact HC285_0.out);(case side3 => repeat (exact HR286_0.out));(case side4 => exact HC286_0.out);rintro e w' ⟨rfl,⟨nd,rfl⟩⟩;refine ⟨_,rfl,?_⟩;obtain ⟨Ao47,co47,eo47⟩:=Kd.R_slice HO_9.out;(subst eo47);refine hK.out _ _ ⟨hHeld.1,hHeld.2.1,hHeld.2.2.1,hHeld.2.2.2⟩ (fun hHeld => ?_);clear hK K;refine norm_ (a':=?_) ?_ ?_;rotate_left
                               ·
                                show Act.put _ (some 102) _ = _;simp only [Act.put,List.setIfInBounds_toArray,List.set_cons_zero,List.set_cons_succ,i64_w,i32_w];rfl
                               refine one_ (i:=13) (N:=some 105) #[true,true,true,true,true,true,true,true,true,true,true,true,true,true,false,true,true,true,true,true,false,true,true,true,true,true,false,false,false,false,false] rfl rfl (one_of HT_.out (by kernel_rfl)) (by decide) (fun K hK => ?_);refine goes_ Try.func51 (by kernel_rfl) rfl #[.slice Ao47 t277.length co47,.slice Ao47 t277.length co47] (by rfl) rfl rfl (by (try simp only [List.map_toArray,List.map_cons,List.map_nil]);rfl) ?_
                               with_reducible refine (spec_l6Dot.calls k7 _ _ t277 _ _ t277 t288 _ ?side1 ?side2 ?side3 ?side4 A42.out).mono ?_
                               (case side1 => exact cU (Kd.R_reads' HO_9.out).2.2);(case side2 => exact (Kd.R_reads' HO_9.out).2.1);(case side3 => exact cU (Kd.R_reads' HO_9.out).2.2);(case side4 => exact (Kd.R_reads' HO_9.out).2.1);rintro e w' ⟨rfl,⟨nd,rfl⟩⟩;refine ⟨_,rfl,?_⟩;refine hK.out _ _ ⟨hHeld.1,hHeld.2.1,hHeld.2.2.1,hHeld.2.2.2⟩ (fun hHeld => ?_);clear hK K;refine norm_ (a':=?_) ?_ ?_;rotate_left
                               ·
                                show Act.put _ (some 105) _ = _;simp only [Act.put,List.setIfInBounds_toArray,List.set_cons_zero,List.set_cons_succ,i64_w,i32_w];rfl
                               refine pure_ (i:=14) (N:=some 106) (v:=?_) (a':=?_) #[true,true,true,true,true,true,true,true,true,true,true,true,true,true,true,true,true,true,true,true,false,true,true,true,true,true,false,false,false,false,false] rfl rfl (any_of HT_.out (by kernel_rfl)) (fun _ _ _ h => h) (Or.inl ⟨by rfl,?_⟩) ?_ ?_;rotate_left
                               ·
                                intro w';go_simp
                                with_reducible rfl
                               rotate_left
                               ·
                                simp only [Act.put,List.setIfInBounds_toArray,List.set_cons_zero,List.set_cons_succ,i64_w,i32_w];rfl
                               refine one_ (i:=20) (N:=some 112) #[true,true,true,true,true,true,true,true,true,true,true,true,true,true,true,true,true,true,true,true,true,true,true,true,true,true,false,false,false,false,false] rfl rfl (one_of HT_.out (by kernel_rfl)) (by decide) (fun K hK => ?_);refine goes_ Try.func51 (by kernel_rfl) rfl #[.slice A285_0 (rd_L5 x3_4 x13_7).length c285_0,.slice Ao47 t277.length co47] (by rfl) rfl rfl (by (try simp only [List.map_toArray,List.map_cons,List.map_nil]);rfl) ?_
                               with_reducible refine (spec_l6Dot.calls k7 _ _ (rd_L5 x3_4 x13_7) _ _ t277 t290 _ ?side1 ?side2 ?side3 ?side4 A43.out).mono ?_
                               (case side1 => repeat (exact (by repeat (first|(with_reducible exact HR289_0.out)|(with_reducible refine Kd.C_drewN ?_ _)))));(case side2 => exact HC289_0.out);(case side3 => exact cU (Kd.R_reads' HO_9.out).2.2);(case side4 => exact (Kd.R_reads' HO_9.out).2.1);rintro e w' ⟨rfl,⟨nd,rfl⟩⟩;refine ⟨_,rfl,?_⟩;refine hK.out _ _ ⟨hHeld.1,hHeld.2.1,hHeld.2.2.1,hHeld.2.2.2⟩ (fun hHeld => ?_);clear hK K;refine norm_ (a':=?_) ?_ ?_;rotate_left
                               ·
                                show Act.put _ (some 112) _ = _;simp only [Act.put,List.setIfInBounds_toArray,List.set_cons_zero,List.set_cons_succ,i64_w,i32_w];rfl
                               refine one_ (i:=26) (N:=some 118) #[true,true,true,true,true,true,true,true,true,true,true,true,true,true,true,true,true,true,true,true,true,true,true,true,true,true,true,false,false,false,false] rfl rfl (one_of HT_.out (by kernel_rfl)) (by decide) (fun K hK => ?_);refine goes_ Try.func51 (by kernel_rfl) rfl #[.slice A285_0 (rd_L5 x3_4 x13_7).length c285_0,.slice Ao47 t277.length co47] (by rfl) rfl rfl (by (try simp only [List.map_toArray,List.map_cons,List.map_nil]);rfl) ?_
                               with_reducible refine (spec_l6Dot.calls k7 _ _ (rd_L5 x3_4 x13_7) _ _ t277 t292 _ ?side1 ?side2 ?side3 ?side4 A44.out).mono ?_
                               (case side1 => repeat (exact (by repeat (first|(with_reducible exact HR291_0.out)|(with_reducible refine Kd.C_drewN ?_ _)))));(case side2 => exact HC291_0.out);(case side3 => exact cU (Kd.R_reads' HO_9.out).2.2);(case side4 => exact (Kd.R_reads' HO_9.out).2.1);rintro e w' ⟨rfl,⟨nd,rfl⟩⟩;refine ⟨_,rfl,?_⟩;refine hK.out _ _ ⟨hHeld.1,hHeld.2.1,hHeld.2.2.1,hHeld.2.2.2⟩ (fun hHeld => ?_);clear hK K;refine norm_ (a':=?_) ?_ ?_;rotate_left
                               ·
                                show Act.put _ (some 118) _ = _;simp only [Act.put,List.setIfInBounds_toArray,List.set_cons_zero,List.set_cons_succ,i64_w,i32_w];rfl
                               refine pure_ (i:=27) (N:=some 119) (v:=?_) (a':=?_) #[true,true,true,true,true,true,true,true,true,true,true,true,true,true,true,true,true,true,true,true,true,true,true,true,true,true,true,true,false,false,false] rfl rfl (any_of HT_.out (by kernel_rfl)) (fun _ _ _ h => h) (Or.inl ⟨by rfl,?_⟩) ?_ ?_;rotate_left
                               ·
                                intro w';go_simp
                                with_reducible rfl
                               rotate_left
                               ·
                                simp only [Act.put,List.setIfInBounds_toArray,List.set_cons_zero,List.set_cons_succ,i64_w,i32_w];rfl
                               refine pure_ (i:=28) (N:=some 120) (v:=?_) (a':=?_) #[true,true,true,true,true,true,true,true,true,true,true,true,true,true,true,true,true,true,true,true,true,true,true,true,true,true,true,true,true,false,false] rfl rfl (any_of HT_.out (by kernel_rfl)) (fun _ _ _ h => h) (Or.inl ⟨by rfl,?_⟩) ?_ ?_;rotate_left
                               ·
                                intro w';go_simp
                                with_reducible rfl
                               rotate_left
                               ·
                                simp only [Act.put,List.setIfInBounds_toArray,List.set_cons_zero,List.set_cons_succ,i64_w,i32_w];rfl
                               refine pure_ (i:=29) (N:=some 121) (v:=?_) (a':=?_) #[true,true,true,true,true,true,true,true,true,true,true,true,true,true,true,true,true,true,true,true,true,true,true,true,true,true,true,true,true,true,false] rfl rfl (any_of HT_.out (by kernel_rfl)) (fun _ _ _ h => h) (Or.inl ⟨by rfl,?_⟩) ?_ ?_;rotate_left
                               ·
                                intro w';go_simp
                                with_reducible rfl
                               rotate_left
                               ·
                                simp only [Act.put,List.setIfInBounds_toArray,List.set_cons_zero,List.set_cons_succ,i64_w,i32_w];rfl
                               refine pure_ (i:=30) (N:=some 11) (v:=?_) (a':=?_) #[true,true,true,true,true,true,true,true,true,true,true,true,true,true,true,true,true,true,true,true,true,true,true,true,true,true,true,true,true,true,true] rfl rfl (any_of HT_.out (by kernel_rfl)) (fun _ _ _ h => h) (Or.inl ⟨by rfl,?_⟩) ?_ ?_;rotate_left
                               ·
                                intro w';go_simp
                                with_reducible rfl
                               rotate_left
                               ·
                                simp only [Act.put,List.setIfInBounds_toArray,List.set_cons_zero,List.set_cons_succ,i64_w,i32_w];rfl
                               refine done_ (done_of HT_.out (by kernel_rfl)) ?_;try go_wp2
                               go_roundg k7;case measure => have:=HK1.out;have:=HK2.out;have:=HK3.out;have:=HK4.out;have:=HK5.out;have:=HK6.out;have:=HK7.out;omega
                               case rel => exact ⟨(((wrap64 (t287 * t288)) != (wrap64 (t290 * t292)))),(wrap64 (x13_7 + 1)),(by rfl),(by rfl),H',⟨by have:=HK1.out;have:=HK2.out;have:=HK3.out;have:=HK4.out;have:=HK5.out;have:=HK6.out;have:=HK7.out;omega⟩,⟨by (with_reducible repeat (apply Kd.S_drewN));exact HO_3.out⟩,⟨rU HO_7.out⟩,⟨rU HO_9.out⟩,⟨belU HB.out⟩⟩
                              ·
                               rw [if_neg c40] at H;exact absurd H (by simp)
                             ·
                              replace c39:=Bool.eq_false_iff.mpr c39;subst c39;have H1 : (spec_l6Corners.l6 k7 l0 x3_4 x4_1 x5_2 x6_3 t266 x8_4 t277 false (wrap64 (x13_7 + 1))) = some r:=by rw [if_neg (show ¬ (false = true) by decide)] at H;exact H
                              clear H;have H:=H1;clear H1;have H':=Aside0.mk H;clear H;obtain ⟨Ao48,co48,eo48⟩:=Kd.S_slice HO_3.out;subst eo48;try go_wp2
                              replace HO_3:=Aside0.mk (Kd.S_drew HO_3.out);replace HO_7:=Aside0.mk (Kd.R_drew HO_7.out);replace HO_9:=Aside0.mk (Kd.R_drew HO_9.out);replace HB:=Aside0.mk (below_drew1 HB.out);refine start_ (n:=31) (S:=fun w' => True) (ds:=[]) #[false,false,false,false,false,false,false,false,false,false,false,false,false,false,false,false,false,false,false,false,false,false,false,false,false,false,false,false,false,false,false] (by kernel_rfl) rfl rfl trivial (fun hHeld => ?_);refine with_tabW spec_l6Corners.tab30 spec_l6Corners.bits30 (fun HT_ HW_ => ?_);generalize wr.drew = w49 at HO_3 HO_7 HO_9 HB hHeld ⊢;refine pure_ (i:=0) (N:=some 92) (v:=?_) (a':=?_) #[true,false,false,false,false,false,false,false,false,false,false,false,false,false,false,false,false,false,false,false,false,false,false,false,false,false,false,false,false,false,false] rfl rfl (any_of HT_.out (by kernel_rfl)) (fun _ _ _ h => h) (Or.inl ⟨by rfl,?_⟩) ?_ ?_;rotate_left
                              ·
                               intro w';go_simp
                               with_reducible rfl
                              rotate_left
                              ·
                               simp only [Act.put,List.setIfInBounds_toArray,List.set_cons_zero,List.set_cons_succ,i64_w,i32_w];rfl
                              refine pure_ (i:=1) (N:=some 93) (v:=?_) (a':=?_) #[true,true,false,false,false,false,false,false,false,false,false,false,false,false,false,false,false,false,false,false,false,false,false,false,false,false,false,false,false,false,false] rfl rfl (any_of HT_.out (by kernel_rfl)) (fun _ _ _ h => h) (Or.inl ⟨by rfl,?_⟩) ?_ ?_;rotate_left
                              ·
                               intro w';go_simp
                               with_reducible rfl
                              rotate_left
                              ·
                               simp only [Act.put,List.setIfInBounds_toArray,List.set_cons_zero,List.set_cons_succ,i64_w,i32_w];rfl
                              refine pure_ (i:=2) (N:=some 94) (v:=undef) (a':=?_) #[true,true,true,false,false,false,false,false,false,false,false,false,false,false,false,false,false,false,false,false,false,false,false,false,false,false,false,false,false,false,false] rfl rfl (any_of HT_.out (by kernel_rfl)) (fun _ _ _ h => h) (Or.inr ⟨by rfl,rfl⟩) ?_ ?_;rotate_left
                              ·
                               simp only [Act.put,List.setIfInBounds_toArray,List.set_cons_zero,List.set_cons_succ,i64_w,i32_w];rfl
                              refine pure_ (i:=3) (N:=some 95) (v:=undef) (a':=?_) #[true,true,true,true,false,false,false,false,false,false,false,false,false,false,false,false,false,false,false,false,false,false,false,false,false,false,false,false,false,false,false] rfl rfl (any_of HT_.out (by kernel_rfl)) (fun _ _ _ h => h) (Or.inr ⟨by rfl,rfl⟩) ?_ ?_;rotate_left
                              ·
                               simp only [Act.put,List.setIfInBounds_toArray,List.set_cons_zero,List.set_cons_succ,i64_w,i32_w];rfl
                              refine pure_ (i:=4) (N:=some 96) (v:=undef) (a':=?_) #[true,true,true,true,true,false,false,false,false,false,false,false,false,false,false,false,false,false,false,false,false,false,false,false,false,false,false,false,false,false,false] rfl rfl (any_of HT_.out (by kernel_rfl)) (fun _ _ _ h => h) (Or.inr ⟨by rfl,rfl⟩) ?_ ?_;rotate_left
                              ·
                               simp only [Act.put,List.setIfInBounds_toArray,List.set_cons_zero,List.set_cons_succ,i64_w,i32_w];rfl
                              refine pure_ (i:=5) (N:=some 97) (v:=undef) (a':=?_) #[true,true,true,true,true,true,false,false,false,false,false,false,false,false,false,false,false,false,false,false,false,false,false,false,false,false,false,false,false,false,false] rfl rfl (any_of HT_.out (by kernel_rfl)) (fun _ _ _ h => h) (Or.inr ⟨by rfl,rfl⟩) ?_ ?_;rotate_left
                              ·
                               simp only [Act.put,List.setIfInBounds_toArray,List.set_cons_zero,List.set_cons_succ,i64_w,i32_w];rfl
                              refine pure_ (i:=6) (N:=some 98) (v:=undef) (a':=?_) #[true,true,true,true,true,true,true,false,false,false,false,false,false,false,false,false,false,false,false,false,false,false,false,false,false,false,false,false,false,false,false] rfl rfl (any_of HT_.out (by kernel_rfl)) (fun _ _ _ h => h) (Or.inr ⟨by rfl,rfl⟩) ?_ ?_;rotate_left
                              ·
                               simp only [Act.put,List.setIfInBounds_toArray,List.set_cons_zero,List.set_cons_succ,i64_w,i32_w];rfl
                              refine pure_ (i:=7) (N:=some 99) (v:=undef) (a':=?_) #[true,true,true,true,true,true,true,true,false,false,false,false,false,false,false,false,false,false,false,false,false,false,false,false,false,false,false,false,false,false,false] rfl rfl (any_of HT_.out (by kernel_rfl)) (fun _ _ _ h => h) (Or.inr ⟨by rfl,rfl⟩) ?_ ?_;rotate_left
                              ·
                               simp only [Act.put,List.setIfInBounds_toArray,List.set_cons_zero,List.set_cons_succ,i64_w,i32_w];rfl
                              refine pure_ (i:=8) (N:=some 100) (v:=undef) (a':=?_) #[true,true,true,true,true,true,true,true,true,false,false,false,false,false,false,false,false,false,false,false,false,false,false,false,false,false,false,false,false,false,false] rfl rfl (any_of HT_.out (by kernel_rfl)) (fun _ _ _ h => h) (Or.inr ⟨by rfl,rfl⟩) ?_ ?_;rotate_left
                              ·
                               simp only [Act.put,List.setIfInBounds_toArray,List.set_cons_zero,List.set_cons_succ,i64_w,i32_w];rfl
                              refine pure_ (i:=9) (N:=some 101) (v:=undef) (a':=?_) #[true,true,true,true,true,true,true,true,true,true,false,false,false,false,false,false,false,false,false,false,false,false,false,false,false,false,false,false,false,false,false] rfl rfl (any_of HT_.out (by kernel_rfl)) (fun _ _ _ h => h) (Or.inr ⟨by rfl,rfl⟩) ?_ ?_;rotate_left
                              ·
                               simp only [Act.put,List.setIfInBounds_toArray,List.set_cons_zero,List.set_cons_succ,i64_w,i32_w];rfl
                              refine pure_ (i:=10) (N:=some 102) (v:=undef) (a':=?_) #[true,true,true,true,true,true,true,true,true,true,true,false,false,false,false,false,false,false,false,false,false,false,false,false,false,false,false,false,false,false,false] rfl rfl (any_of HT_.out (by kernel_rfl)) (fun _ _ _ h => h) (Or.inr ⟨by rfl,rfl⟩) ?_ ?_;rotate_left
                              ·
                               simp only [Act.put,List.setIfInBounds_toArray,List.set_cons_zero,List.set_cons_succ,i64_w,i32_w];rfl
                              refine pure_ (i:=11) (N:=some 103) (v:=undef) (a':=?_) #[true,true,true,true,true,true,true,true,true,true,true,true,false,false,false,false,false,false,false,false,false,false,false,false,false,false,false,false,false,false,false] rfl rfl (any_of HT_.out (by kernel_rfl)) (fun _ _ _ h => h) (Or.inr ⟨by rfl,rfl⟩) ?_ ?_;rotate_left
                              ·
                               simp only [Act.put,List.setIfInBounds_toArray,List.set_cons_zero,List.set_cons_succ,i64_w,i32_w];rfl
                              refine pure_ (i:=12) (N:=some 104) (v:=undef) (a':=?_) #[true,true,true,true,true,true,true,true,true,true,true,true,true,false,false,false,false,false,false,false,false,false,false,false,false,false,false,false,false,false,false] rfl rfl (any_of HT_.out (by kernel_rfl)) (fun _ _ _ h => h) (Or.inr ⟨by rfl,rfl⟩) ?_ ?_;rotate_left
                              ·
                               simp only [Act.put,List.setIfInBounds_toArray,List.set_cons_zero,List.set_cons_succ,i64_w,i32_w];rfl
                              refine pure_ (i:=13) (N:=some 105) (v:=undef) (a':=?_) #[true,true,true,true,true,true,true,true,true,true,true,true,true,true,false,false,false,false,false,false,false,false,false,false,false,false,false,false,false,false,false] rfl rfl (any_of HT_.out (by kernel_rfl)) (fun _ _ _ h => h) (Or.inr ⟨by rfl,rfl⟩) ?_ ?_;rotate_left
                              ·
                               simp only [Act.put,List.setIfInBounds_toArray,List.set_cons_zero,List.set_cons_succ,i64_w,i32_w];rfl
                              refine pure_ (i:=14) (N:=some 106) (v:=undef) (a':=?_) #[true,true,true,true,true,true,true,true,true,true,true,true,true,true,true,false,false,false,false,false,false,false,false,false,false,false,false,false,false,false,false] rfl rfl (any_of HT_.out (by kernel_rfl)) (fun _ _ _ h => h) (Or.inr ⟨by rfl,rfl⟩) ?_ ?_;rotate_left
                              ·
                               simp only [Act.put,List.setIfInBounds_toArray,List.set_cons_zero,List.set_cons_succ,i64_w,i32_w];rfl
                              refine pure_ (i:=15) (N:=some 107) (v:=undef) (a':=?_) #[true,true,true,true,true,true,true,true,true,true,true,true,true,true,true,true,false,false,false,false,false,false,false,false,false,false,false,false,false,false,false] rfl rfl (any_of HT_.out (by kernel_rfl)) (fun _ _ _ h => h) (Or.inr ⟨by rfl,rfl⟩) ?_ ?_;rotate_left
                              ·
                               simp only [Act.put,List.setIfInBounds_toArray,List.set_cons_zero,List.set_cons_succ,i64_w,i32_w];rfl
                              refine pure_ (i:=16) (N:=some 108) (v:=undef) (a':=?_) #[true,true,true,true,true,true,true,true,true,true,true,true,true,true,true,true,true,false,false,false,false,false,false,false,false,false,false,false,false,false,false] rfl rfl (any_of HT_.out (by kernel_rfl)) (fun _ _ _ h => h) (Or.inr ⟨by rfl,rfl⟩) ?_ ?_;rotate_left
                              ·
                               simp only [Act.put,List.setIfInBounds_toArray,List.set_cons_zero,List.set_cons_succ,i64_w,i32_w];rfl
                              refine pure_ (i:=17) (N:=some 109) (v:=undef) (a':=?_) #[true,true,true,true,true,true,true,true,true,true,true,true,true,true,true,true,true,true,false,false,false,false,false,false,false,false,false,false,false,false,false] rfl rfl (any_of HT_.out (by kernel_rfl)) (fun _ _ _ h => h) (Or.inr ⟨by rfl,rfl⟩) ?_ ?_;rotate_left
                              ·
                               simp only [Act.put,List.setIfInBounds_toArray,List.set_cons_zero,List.set_cons_succ,i64_w,i32_w];rfl
                              refine pure_ (i:=18) (N:=some 110) (v:=undef) (a':=?_) #[true,true,true,true,true,true,true,true,true,true,true,true,true,true,true,true,true,true,true,false,false,false,false,false,false,false,false,false,false,false,false] rfl rfl (any_of HT_.out (by kernel_rfl)) (fun _ _ _ h => h) (Or.inr ⟨by rfl,rfl⟩) ?_ ?_;rotate_left
                              ·
                               simp only [Act.put,List.setIfInBounds_toArray,List.set_cons_zero,List.set_cons_succ,i64_w,i32_w];rfl
                              refine pure_ (i:=19) (N:=some 111) (v:=undef) (a':=?_) #[true,true,true,true,true,true,true,true,true,true,true,true,true,true,true,true,true,true,true,true,false,false,false,false,false,false,false,false,false,false,false] rfl rfl (any_of HT_.out (by kernel_rfl)) (fun _ _ _ h => h) (Or.inr ⟨by rfl,rfl⟩) ?_ ?_;rotate_left
                              ·
                               simp only [Act.put,List.setIfInBounds_toArray,List.set_cons_zero,List.set_cons_succ,i64_w,i32_w];rfl
                              refine pure_ (i:=20) (N:=some 112) (v:=undef) (a':=?_) #[true,true,true,true,true,true,true,true,true,true,true,true,true,true,true,true,true,true,true,true,true,false,false,false,false,false,false,false,false,false,false] rfl rfl (any_of HT_.out (by kernel_rfl)) (fun _ _ _ h => h) (Or.inr ⟨by rfl,rfl⟩) ?_ ?_;rotate_left
                              ·
                               simp only [Act.put,List.setIfInBounds_toArray,List.set_cons_zero,List.set_cons_succ,i64_w,i32_w];rfl
                              refine pure_ (i:=21) (N:=some 113) (v:=undef) (a':=?_) #[true,true,true,true,true,true,true,true,true,true,true,true,true,true,true,true,true,true,true,true,true,true,false,false,false,false,false,false,false,false,false] rfl rfl (any_of HT_.out (by kernel_rfl)) (fun _ _ _ h => h) (Or.inr ⟨by rfl,rfl⟩) ?_ ?_;rotate_left
                              ·
                               simp only [Act.put,List.setIfInBounds_toArray,List.set_cons_zero,List.set_cons_succ,i64_w,i32_w];rfl
                              refine pure_ (i:=22) (N:=some 114) (v:=undef) (a':=?_) #[true,true,true,true,true,true,true,true,true,true,true,true,true,true,true,true,true,true,true,true,true,true,true,false,false,false,false,false,false,false,false] rfl rfl (any_of HT_.out (by kernel_rfl)) (fun _ _ _ h => h) (Or.inr ⟨by rfl,rfl⟩) ?_ ?_;rotate_left
                              ·
                               simp only [Act.put,List.setIfInBounds_toArray,List.set_cons_zero,List.set_cons_succ,i64_w,i32_w];rfl
                              refine pure_ (i:=23) (N:=some 115) (v:=undef) (a':=?_) #[true,true,true,true,true,true,true,true,true,true,true,true,true,true,true,true,true,true,true,true,true,true,true,true,false,false,false,false,false,false,false] rfl rfl (any_of HT_.out (by kernel_rfl)) (fun _ _ _ h => h) (Or.inr ⟨by rfl,rfl⟩) ?_ ?_;rotate_left
                              ·
                               simp only [Act.put,List.setIfInBounds_toArray,List.set_cons_zero,List.set_cons_succ,i64_w,i32_w];rfl
                              refine pure_ (i:=24) (N:=some 116) (v:=undef) (a':=?_) #[true,true,true,true,true,true,true,true,true,true,true,true,true,true,true,true,true,true,true,true,true,true,true,true,true,false,false,false,false,false,false] rfl rfl (any_of HT_.out (by kernel_rfl)) (fun _ _ _ h => h) (Or.inr ⟨by rfl,rfl⟩) ?_ ?_;rotate_left
                              ·
                               simp only [Act.put,List.setIfInBounds_toArray,List.set_cons_zero,List.set_cons_succ,i64_w,i32_w];rfl
                              refine pure_ (i:=25) (N:=some 117) (v:=undef) (a':=?_) #[true,true,true,true,true,true,true,true,true,true,true,true,true,true,true,true,true,true,true,true,true,true,true,true,true,true,false,false,false,false,false] rfl rfl (any_of HT_.out (by kernel_rfl)) (fun _ _ _ h => h) (Or.inr ⟨by rfl,rfl⟩) ?_ ?_;rotate_left
                              ·
                               simp only [Act.put,List.setIfInBounds_toArray,List.set_cons_zero,List.set_cons_succ,i64_w,i32_w];rfl
                              refine pure_ (i:=26) (N:=some 118) (v:=undef) (a':=?_) #[true,true,true,true,true,true,true,true,true,true,true,true,true,true,true,true,true,true,true,true,true,true,true,true,true,true,true,false,false,false,false] rfl rfl (any_of HT_.out (by kernel_rfl)) (fun _ _ _ h => h) (Or.inr ⟨by rfl,rfl⟩) ?_ ?_;rotate_left
                              ·
                               simp only [Act.put,List.setIfInBounds_toArray,List.set_cons_zero,List.set_cons_succ,i64_w,i32_w];rfl
                              refine pure_ (i:=27) (N:=some 119) (v:=undef) (a':=?_) #[true,true,true,true,true,true,true,true,true,true,true,true,true,true,true,true,true,true,true,true,true,true,true,true,true,true,true,true,false,false,false] rfl rfl (any_of HT_.out (by kernel_rfl)) (fun _ _ _ h => h) (Or.inr ⟨by rfl,rfl⟩) ?_ ?_;rotate_left
                              ·
                               simp only [Act.put,List.setIfInBounds_toArray,List.set_cons_zero,List.set_cons_succ,i64_w,i32_w];rfl
                              refine pure_ (i:=28) (N:=some 120) (v:=undef) (a':=?_) #[true,true,true,true,true,true,true,true,true,true,true,true,true,true,true,true,true,true,true,true,true,true,true,true,true,true,true,true,true,false,false] rfl rfl (any_of HT_.out (by kernel_rfl)) (fun _ _ _ h => h) (Or.inr ⟨by rfl,rfl⟩) ?_ ?_;rotate_left
                              ·
                               simp only [Act.put,List.setIfInBounds_toArray,List.set_cons_zero,List.set_cons_succ,i64_w,i32_w];rfl
                              refine pure_ (i:=29) (N:=some 121) (v:=?_) (a':=?_) #[true,true,true,true,true,true,true,true,true,true,true,true,true,true,true,true,true,true,true,true,true,true,true,true,true,true,true,true,true,true,false] rfl rfl (any_of HT_.out (by kernel_rfl)) (fun _ _ _ h => h) (Or.inl ⟨by rfl,?_⟩) ?_ ?_;rotate_left
                              ·
                               intro w';go_simp
                               with_reducible rfl
                              rotate_left
                              ·
                               simp only [Act.put,List.setIfInBounds_toArray,List.set_cons_zero,List.set_cons_succ,i64_w,i32_w];rfl
                              refine pure_ (i:=30) (N:=some 11) (v:=?_) (a':=?_) #[true,true,true,true,true,true,true,true,true,true,true,true,true,true,true,true,true,true,true,true,true,true,true,true,true,true,true,true,true,true,true] rfl rfl (any_of HT_.out (by kernel_rfl)) (fun _ _ _ h => h) (Or.inl ⟨by rfl,?_⟩) ?_ ?_;rotate_left
                              ·
                               intro w';go_simp
                               with_reducible rfl
                              rotate_left
                              ·
                               simp only [Act.put,List.setIfInBounds_toArray,List.set_cons_zero,List.set_cons_succ,i64_w,i32_w];rfl
                              refine done_ (done_of HT_.out (by kernel_rfl)) ?_;try go_wp2
                              go_roundg k7;case measure => have:=HK1.out;have:=HK2.out;have:=HK3.out;have:=HK4.out;have:=HK5.out;have:=HK6.out;have:=HK7.out;omega
                              case rel => exact ⟨(false),(wrap64 (x13_7 + 1)),(by rfl),(by rfl),H',⟨by have:=HK1.out;have:=HK2.out;have:=HK3.out;have:=HK4.out;have:=HK5.out;have:=HK6.out;have:=HK7.out;omega⟩,⟨by exact HO_3.out⟩,⟨rU HO_7.out⟩,⟨rU HO_9.out⟩,⟨belU HB.out⟩⟩
                            ·
                             rw [if_neg c38] at H;have c38b0 : decide (x13_7 < (x3_4.length : Int)) = false:=decide_eq_false c38;clear c38;by_cases c50 : x11_7 = true
                             ·
                              subst c50;have H1 : (if x3_4.length < 5864062014805 then (spec_l6Corners.l3 k7 l0 (x3_4 ++ [t277]) x4_1 x5_2 x6_3 t266 (wrap64 (x8_4 + 1))) else (none)) = some r:=by rw [if_pos rfl] at H;exact H
                              clear H;have H:=H1;clear H1;by_cases c51 : x3_4.length < 5864062014805
                              ·
                               rw [if_pos c51] at H;have LMc51:=Aside0.mk c51;clear c51;obtain ⟨y282,hy282⟩ : ∃ y_ : List (List Int),y_ = (x3_4 ++ [t277]):=⟨_,rfl⟩
                               replace H : (spec_l6Corners.l3 k7 l0 y282 x4_1 x5_2 x6_3 t266 (wrap64 (x8_4 + 1))) = some r:=by (rw [hy282];with_reducible exact H)
                               have Ny282:=Aside0.mk hy282;clear hy282;have H':=Aside0.mk H;clear H;obtain ⟨Ao52,co52,eo52⟩:=Kd.S_slice HO_3.out;subst eo52;obtain ⟨Ao54,co54,eo54⟩:=Kd.R_slice HO_9.out;subst eo54;go_wp2_with (((with_reducible refine gate_builtin (b:=.append) (xs:=#[.tmp 123,.tmp 125]) rfl ?_);at_builtin;refine Kd.S_append (Kd.slice 3 (Kd.int .i64)) (w0:=w) w.heap.size rfl (.tmp 123) (.tmp 125) 58 29 (.slice none 0 0) 24 rfl Try.underlying58 info29 rfl (by decide) (by omega) (.slice Ao52 x3_4.length co52) x3_4 t277 [.slice Ao54 t277.length co54] (fun k_ => some k_ ≠ (.slice Ao21 t266.length co21 : Value).ownBlock) (fun k_ => some k_ = (.slice Ao54 t277.length co54 : Value).ownBlock) rfl rfl ?aP (fun k_ hk_ => ((Kd.R_mono (ok':=fun k_ => ((fun k_ => some k_ ≠ (.slice Ao21 t266.length co21 : Value).ownBlock)) k_ ∧ some k_ ≠ (.slice Ao52 x3_4.length co52 : Value).ownBlock) (Kd.R_apart' (HO_9.out) (Kd.S_typed HO_3.out) (by decide)) (fun k_ hk => ⟨hk.1,hk.2⟩))).1 k_ hk_.symm) ?aF ?aO ?aB ?aS ?aL ?_;(case aP => exact Kd.M_row (Kd.R_mono (Kd.R_tight rfl (Kd.R_mono (ok':=fun k_ => ((fun k_ => some k_ ≠ (.slice Ao21 t266.length co21 : Value).ownBlock)) k_ ∧ some k_ ≠ (.slice Ao52 x3_4.length co52 : Value).ownBlock) (Kd.R_apart' (HO_9.out) (Kd.S_typed HO_3.out) (by decide)) (fun k_ hk => ⟨hk.1,hk.2⟩))) (fun _ h_ => h_)));(case aB => exact (belU HB.out));(case aF => exact (fun k_ hk => Kd.fresh' (Kd.R_lt (rU HO_7.out)) k_ hk));(case aO => exact (by exact Kd.S_mono HO_3.out (fun k_ hk => ⟨hk.1,fun e_ => hk.2 e_⟩)));(case aS => exact (below_size (belU HB.out)));(case aL => have:=LMc51.out;omega);intro v283 w53 ho hb hg hat;rw [← Ny282.out] at ho;replace HO_7:=Aside0.mk (Kd.R_over' (rU HO_7.out) (Kd.S_typed (by exact HO_3.out)) (by decide) hg);replace HB:=Aside0.mk (hb);have HO284:=Aside0.mk (ho);clear HO_3 HO_9 ho hb hg hat))
                               go_roundg k7;case measure => have:=HK1.out;have:=HK2.out;have:=HK3.out;have:=HK4.out;have:=HK5.out;have:=HK6.out;have:=HK7.out;omega
                               case rel => exact ⟨(y282),(wrap64 (x8_4 + 1)),(by rfl),H',⟨by have:=HK1.out;have:=HK2.out;have:=HK3.out;have:=HK4.out;have:=HK5.out;have:=HK6.out;have:=HK7.out;omega⟩,⟨by exact HO284.out⟩,⟨by exact Kd.R_mono HO_7.out (fun _ hk => trivial)⟩,⟨belU HB.out⟩⟩
                              ·
                               rw [if_neg c51] at H;exact absurd H (by simp)
                             ·
                              replace c50:=Bool.eq_false_iff.mpr c50;subst c50;have H1 : (spec_l6Corners.l3 k7 l0 x3_4 x4_1 x5_2 x6_3 t266 (wrap64 (x8_4 + 1))) = some r:=by rw [if_neg (show ¬ (false = true) by decide)] at H;exact H
                              clear H;have H:=H1;clear H1;have H':=Aside0.mk H;clear H;obtain ⟨Ao55,co55,eo55⟩:=Kd.S_slice HO_3.out;subst eo55;go_wp2;go_roundg k7;case measure => have:=HK1.out;have:=HK2.out;have:=HK3.out;have:=HK4.out;have:=HK5.out;have:=HK6.out;have:=HK7.out;omega
                              case rel => exact ⟨(x3_4),(wrap64 (x8_4 + 1)),(by rfl),H',⟨by have:=HK1.out;have:=HK2.out;have:=HK3.out;have:=HK4.out;have:=HK5.out;have:=HK6.out;have:=HK7.out;omega⟩,⟨by exact Kd.S_mono HO_3.out (fun _ hk => hk.1)⟩,⟨by exact Kd.R_mono HO_7.out (fun _ hk => trivial)⟩,⟨belU HB.out⟩⟩
                   ·
                    rw [if_neg c22] at H;have c22b0 : decide (x8_4 < 2) = false:=decide_eq_false c22;clear c22;have H':=Aside0.mk H;clear H;go_wp2;go_roundg k4;case measure => have:=HK1.out;have:=HK2.out;have:=HK3.out;have:=HK4.out;omega
                    case rel => exact ⟨(x3_4),(wrap64 (x6_3 + 1)),(by rfl),H',⟨by have:=HK1.out;have:=HK2.out;have:=HK3.out;have:=HK4.out;omega⟩,⟨by exact Kd.S_mono HO_3.out (fun _ hk => trivial)⟩,⟨belU HB.out⟩⟩
               ·
                rw [if_neg c12] at H;exact absurd H (by simp)
              ·
               rw [if_neg c11] at H;exact absurd H (by simp)
             ·
              rw [if_neg c10] at H;exact absurd H (by simp)
            ·
             rw [if_neg c9] at H;exact absurd H (by simp)
           ·
            rw [if_neg c8] at H;exact absurd H (by simp)
          ·
           rw [if_neg c7] at H;exact absurd H (by simp)
         ·
          rw [if_neg c6] at H;have c6b0 : decide (x6_3 < x5_2) = false:=decide_eq_false c6;clear c6;have H':=Aside0.mk H;clear H;go_wp2;go_roundg k3;case measure => have:=HK1.out;have:=HK2.out;have:=HK3.out;omega
          case rel => exact ⟨(x3_3),(wrap64 (x5_2 + 1)),(by rfl),H',⟨by have:=HK1.out;have:=HK2.out;have:=HK3.out;omega⟩,⟨by exact HO_3.out⟩,⟨belU HB.out⟩⟩
      ·
       rw [if_neg c5] at H;have c5b0 : decide (x5_2 < x4_1) = false:=decide_eq_false c5;clear c5;have H':=Aside0.mk H;clear H;go_wp2;go_roundg k2;case measure => have:=HK1.out;have:=HK2.out;omega
       case rel => exact ⟨(x3_2),(wrap64 (x4_1 + 1)),(by rfl),H',⟨by have:=HK1.out;have:=HK2.out;omega⟩,⟨by exact HO_3.out⟩,⟨belU HB.out⟩⟩
   ·
    rw [if_neg c4] at H;have c4b0 : decide (x4_1 < (l0.length : Int)) = false:=decide_eq_false c4;clear c4;obtain rfl:=Option.some.inj H;go_wp2;go_ret;exact ⟨_,by rfl,by exact HO_3.out,belU HB.out⟩

end Go.Proofs.Ytmkfmbjemdbigaa.PA
