/- The machine side of functions of this seat, written by the session's program myprint.py: for each Go function a Lean function and the proof that the call answers just it. -/
import Derived.Test.YtmkfmbjemdbigaaPAx0
import Derived.Test.YtmkfmbjemdbigaaUp
import Derived.Test.YtmkfmbjemdbigaaPAx6
import Derived.Test.YtmkfmbjemdbigaaPAx12
import Derived.Test.YtmkfmbjemdbigaaPAx22
namespace Go.Proofs.Ytmkfmbjemdbigaa.PA
open Go.RowKit Go.Proofs.YtmkfmbjemdbigaaW.PrintWords Go.Proofs.YtmkfmbjemdbigaaW.PrintLast Go.Proofs.YtmkfmbjemdbigaaW.PrintMore
attribute [local go_sem] max2_int min2_int max_two min_two max_three min_three max_four min_four   -- for this text's walks alone
set_option linter.unusedVariables false
set_option linter.unusedSimpArgs false

/-! ### spec_CountsFor: function 20 -/
mutual
def spec_CountsFor.l0 : Nat → List (S25) → Int → Option (List Int × Bool)
 | 0,_,_ => none
 | k + 1,x0,x4 => if x4 < (x0.length : Int) then (if 0 ≤ x4 then ((spec_WeighOk.f ((rd_T25 x0 x4).f0) ((rd_T25 x0 x4).f1) ((rd_T25 x0 x4).f2)).bind fun t339 => (if t339 = true then (spec_CountsFor.l0 k x0 (wrap64 (x4 + 1))) else (some ((([] : List Int)),false)))) else (none)) else (if (x0.length : Int) > 6 then (some ((([] : List Int)),false)) else (if 4 ≤ 35184372088832 then ((spec_CornersOf.f k x0).bind fun t349 => (spec_CountsFor.l1 k x0 (List.replicate 4 0) t349 0)) else (none)))
def spec_CountsFor.l1 : Nat → List (S25) → List Int → List (List Int) → Int → Option (List Int × Bool)
 | 0,_,_,_,_ => none
 | k + 1,x0,x5,x6,x7 => if x7 < (x6.length : Int) then (spec_CountsFor.l2 k x0 x5 x6 x7 0) else (spec_CountsFor.l3 k x0 x5 0)
def spec_CountsFor.l2 : Nat → List (S25) → List Int → List (List Int) → Int → Int → Option (List Int × Bool)
 | 0,_,_,_,_,_ => none
 | k + 1,x0,x5,x6,x7,x8 => if x8 < 4 then (if 0 ≤ x8 then (if x8 < (x5.length : Int) then (if 0 ≤ x7 then (if x7 < (x6.length : Int) then (if x8 < ((rd_L5 x6 x7).length : Int) then (spec_CountsFor.l2 k x0 (x5.set (x8 : Int).toNat (wrap64 ((rd x5 x8) + (rd (rd_L5 x6 x7) x8)))) x6 x7 (wrap64 (x8 + 1))) else (none)) else (none)) else (none)) else (none)) else (none)) else (spec_CountsFor.l1 k x0 x5 x6 (wrap64 (x7 + 1)))
def spec_CountsFor.l3 : Nat → List (S25) → List Int → Int → Option (List Int × Bool)
 | 0,_,_,_ => none
 | k + 1,x0,x5,x9 => if x9 < (x0.length : Int) then (if 0 ≤ x9 then ((spec_WeighSo.f k x5 ((rd_T25 x0 x9).f0) ((rd_T25 x0 x9).f1) ((rd_T25 x0 x9).f2)).bind fun t357 => (if t357 = true then (spec_CountsFor.l3 k x0 x5 (wrap64 (x9 + 1))) else (some ((([] : List Int)),false)))) else (none)) else (some (x5,true))
end
def spec_CountsFor.f (k : Nat) (l0 : List (S25)) : Option (List Int × Bool):=spec_CountsFor.l0 k l0 0
theorem spec_CountsFor.mono_l : ∀ k,(∀ y0 y1,LeO (spec_CountsFor.l0 k y0 y1) (spec_CountsFor.l0 (k + 1) y0 y1)) ∧ (∀ y0 y1 y2 y3,LeO (spec_CountsFor.l1 k y0 y1 y2 y3) (spec_CountsFor.l1 (k + 1) y0 y1 y2 y3)) ∧ (∀ y0 y1 y2 y3 y4,LeO (spec_CountsFor.l2 k y0 y1 y2 y3 y4) (spec_CountsFor.l2 (k + 1) y0 y1 y2 y3 y4)) ∧ (∀ y0 y1 y2,LeO (spec_CountsFor.l3 k y0 y1 y2) (spec_CountsFor.l3 (k + 1) y0 y1 y2))
 | 0 => ⟨fun _ _ r h => by simp [spec_CountsFor.l0] at h,fun _ _ _ _ r h => by simp [spec_CountsFor.l1] at h,fun _ _ _ _ _ r h => by simp [spec_CountsFor.l2] at h,fun _ _ _ r h => by simp [spec_CountsFor.l3] at h⟩
 | k + 1 => by
  obtain ⟨ih0,ih1,ih2,ih3⟩:=spec_CountsFor.mono_l k;refine ⟨?_,?_,?_,?_⟩
  ·
   intro y0 y1;unfold spec_CountsFor.l0;repeat' first
   | (with_reducible exact ih0 _ _)
   | (with_reducible exact ih1 _ _ _ _)
   | (with_reducible exact spec_CornersOf.mono _ _)
   | (with_reducible exact LeO.refl _)
   | (with_reducible refine LeO.ite ?_ ?_)
   | (with_reducible refine LeO.bind ?_ (fun _ => ?_))
  ·
   intro y0 y1 y2 y3;unfold spec_CountsFor.l1;repeat' first
   | (with_reducible exact ih2 _ _ _ _ _)
   | (with_reducible exact ih3 _ _ _)
   | (with_reducible refine LeO.ite ?_ ?_)
  ·
   intro y0 y1 y2 y3 y4;unfold spec_CountsFor.l2;repeat' first
   | (with_reducible exact ih1 _ _ _ _)
   | (with_reducible exact ih2 _ _ _ _ _)
   | (with_reducible exact LeO.refl _)
   | (with_reducible refine LeO.ite ?_ ?_)
  ·
   intro y0 y1 y2;unfold spec_CountsFor.l3;repeat' first
   | (with_reducible exact ih3 _ _ _)
   | (with_reducible exact spec_WeighSo.mono _ _ _ _ _)
   | (with_reducible exact LeO.refl _)
   | (with_reducible refine LeO.ite ?_ ?_)
   | (with_reducible refine LeO.bind ?_ (fun _ => ?_))
theorem spec_CountsFor.mono : ∀ a0 k,LeO (spec_CountsFor.f k a0) (spec_CountsFor.f (k + 1) a0):=by
 intro a0 k;obtain ⟨ih0,ih1,ih2,ih3⟩:=spec_CountsFor.mono_l k;unfold spec_CountsFor.f;repeat' first
   | (with_reducible exact ih0 _ _)
def spec_CountsFor.T16 : Bool × List (List Nat × List Nat):=(true,[([],[]),([],[]),([],[]),([],[]),([2,3],[2,3]),([4],[4]),([],[]),([],[]),([6,7],[6,7]),([8],[8]),([],[]),([9,10],[9,10]),([11],[11]),([5,12],[5,12]),([0,1,0,1,2,3,4,5,6,7,8,9,10,11,12,13],[0,1]),([14,13,0,1,2,3,4,5,6,7,8,9,10,11,12,13],[13,14])])
def spec_CountsFor.B16 : List Nat:=[0,0,0,0,12,28,0,0,192,448,0,1984,4032,8188,16383,32767]
theorem spec_CountsFor.tab16 : rtab .any (opsOf Try.f20 16) = spec_CountsFor.T16:=by kernel_rfl
theorem spec_CountsFor.bits16 : waitsOk spec_CountsFor.T16.2 spec_CountsFor.B16 = true:=by kernel_rfl
set_option maxHeartbeats 8000000 in
set_option maxRecDepth 100000 in
theorem spec_CountsFor.calls (k : Nat) (A0 : Option Addr) (c0 : Nat) (l0 : List (S25)) (r1 : List Int) (r2 : Bool) (w : World) (hr0 : Kd.C k25 w A0 l0.length l0) (hc0 : l0.length ≤ c0) (h : spec_CountsFor.f k l0 = some (r1,r2)) :
  Calls Try.prog 20 #[.slice A0 l0.length c0] w fun e w' => ∃ v0_ : Value,e = .returned (.tuple #[v0_,.bool r2]) ∧ Kd.R (Kd.int .i64) 3 w' w.heap.size (fun _ => True) v0_ r1 ∧ Below w.heap.size w w':=by
 have hu25:=Try.underlying25;have HR0:=Aside0.mk hr0;have HC0:=Aside0.mk hc0;clear hr0 hc0;have HB:=Aside0.mk (Below.refl w.heap.size w);have H : (spec_CountsFor.l0 k l0 0) = some (r1,r2):=h;clear h;have H':=Aside0.mk H;clear H;go_enter Try.func20,Try.ntmps20;go_wp2;go_loopg [4] k (fun kq v4 w' => ∃ (x4_1 : Int),v4 = .int .i64 x4_1 ∧ Aside0 (spec_CountsFor.l0 kq l0 x4_1 = some (r1,r2)) ∧ Aside0 (kq ≤ k) ∧ Aside0 (Below w.heap.size w w'));case atStart => exact ⟨(0),(by rfl),H',⟨Nat.le_refl _⟩,⟨belU HB.out⟩⟩
 case round =>
  clear H';obtain ⟨x4_1,rfl,HA,HK1,HB⟩:=hrel;cases gk with
  | zero => exact absurd HA.out (by simp [spec_CountsFor.l0])
  | succ k1 =>
   have H:=HA.out;clear HA;simp only [spec_CountsFor.l0] at H;by_cases c2 : x4_1 < (l0.length : Int)
   ·
    rw [if_pos c2] at H;have c2b0 : decide (x4_1 < (l0.length : Int)) = true:=decide_eq_true c2;clear c2;by_cases c3 : 0 ≤ x4_1
    ·
     rw [if_pos c3] at H;have c3b0 : decide (0 ≤ x4_1) = true:=decide_eq_true c3;clear c3;replace H:=Option.bind_eq_some_iff.mp H;obtain ⟨t339,A40,H⟩:=H;have A4:=Aside0.mk A40;clear A40;by_cases c5 : t339 = true
     ·
      subst c5;have H1 : (spec_CountsFor.l0 k1 l0 (wrap64 (x4_1 + 1))) = some (r1,r2):=by rw [if_pos rfl] at H;exact H
      clear H;have H:=H1;clear H1;have H':=Aside0.mk H;clear H;have p338 : 0 ≤ (x4_1 : Int):=of_decide_eq_true (by (with_reducible assumption));have q338 : x4_1 < (l0.length : Int):=of_decide_eq_true (by (with_reducible assumption));obtain ⟨ad338,e338,hx338_0,hx338_1,hx338_2⟩:=at_T25 HR0.out x4_1 p338 q338;cases e338;replace hx338_0:=(HB.out.cell (World.block_lt_of_cell? w _ hx338_0)).trans hx338_0;replace hx338_1:=(HB.out.cell (World.block_lt_of_cell? w _ hx338_1)).trans hx338_1;replace hx338_2:=(HB.out.cell (World.block_lt_of_cell? w _ hx338_2)).trans hx338_2;replace p338:=eq_true p338;replace q338:=eq_true q338;go_wp2_with (((with_reducible refine gate_callee (f:=9) rfl ?_);refine goesL_ (some 20) rfl rfl Try.func9 (by kernel_rfl) rfl #[.agg #[.int .i64 ((rd_T25 l0 x4_1).f0),.int .i64 ((rd_T25 l0 x4_1).f1),.int .i64 ((rd_T25 l0 x4_1).f2)]] rfl (by (try simp only [List.map_toArray,List.map_cons,List.map_nil]);rfl) ?_;(with_reducible refine (spec_WeighOk.calls ((rd_T25 l0 x4_1).f0) ((rd_T25 l0 x4_1).f1) ((rd_T25 l0 x4_1).f2) true _ A4.out).mono ?_);rintro e w6 ⟨rfl,hb⟩;refine ⟨_,rfl,?_⟩;replace HB:=Aside0.mk (below_step (belU HB.out) hb);(try clear hb)))
      go_roundg k1;case measure => have:=HK1.out;omega
      case rel => exact ⟨(wrap64 (x4_1 + 1)),(by rfl),H',⟨by have:=HK1.out;omega⟩,⟨belU HB.out⟩⟩
     ·
      replace c5:=Bool.eq_false_iff.mpr c5;subst c5;have H1 : (some ((([] : List Int)),false)) = some (r1,r2):=by rw [if_neg (show ¬ (false = true) by decide)] at H;exact H
      clear H;have H:=H1;clear H1;obtain ⟨y340,hy340⟩ : ∃ y_ : List Int,y_ = (([] : List Int)):=⟨_,rfl⟩
      replace H : (some (y340,false)) = some (r1,r2):=by (rw [hy340];with_reducible exact H)
      have Ny340:=Aside0.mk hy340;clear hy340;simp only [Option.some.injEq,Prod.mk.injEq] at H;obtain ⟨rfl,rfl⟩:=H;have p338 : 0 ≤ (x4_1 : Int):=of_decide_eq_true (by (with_reducible assumption));have q338 : x4_1 < (l0.length : Int):=of_decide_eq_true (by (with_reducible assumption));obtain ⟨ad338,e338,hx338_0,hx338_1,hx338_2⟩:=at_T25 HR0.out x4_1 p338 q338;cases e338;replace hx338_0:=(HB.out.cell (World.block_lt_of_cell? w _ hx338_0)).trans hx338_0;replace hx338_1:=(HB.out.cell (World.block_lt_of_cell? w _ hx338_1)).trans hx338_1;replace hx338_2:=(HB.out.cell (World.block_lt_of_cell? w _ hx338_2)).trans hx338_2;replace p338:=eq_true p338;replace q338:=eq_true q338;go_wp2_with (first|((with_reducible refine gate_callee (f:=9) rfl ?_);refine goesL_ (some 20) rfl rfl Try.func9 (by kernel_rfl) rfl #[.agg #[.int .i64 ((rd_T25 l0 x4_1).f0),.int .i64 ((rd_T25 l0 x4_1).f1),.int .i64 ((rd_T25 l0 x4_1).f2)]] rfl (by (try simp only [List.map_toArray,List.map_cons,List.map_nil]);rfl) ?_;(with_reducible refine (spec_WeighOk.calls ((rd_T25 l0 x4_1).f0) ((rd_T25 l0 x4_1).f1) ((rd_T25 l0 x4_1).f2) false _ A4.out).mono ?_);rintro e w7 ⟨rfl,hb⟩;refine ⟨_,rfl,?_⟩;replace HB:=Aside0.mk (below_step (belU HB.out) hb);(try clear hb))|((with_reducible refine gate_dst (N:=22) rfl ?_);refine Kd.R_lit (Kd.int .i64) _ 3 ?hg (N:=22) ?hd (xs:=([] : List Int)) (inner:=[]) (ok:=fun _ => True) (okp:=fun _ => True) ?hr ?hp (fun _ hk => hk) trivial (Below.refl _ _) (Nat.le_refl _) (by simp) ?_;(case hd => rfl);(case hg => rfl);(case hr => go_simp;done);(case hp => exact (Reps.none _ _));intro v341 w8 ho9 hb hg_ hnew_;clear hg_ hnew_;(rw [← Ny340.out] at ho9);have HO342:=Aside0.mk (Kd.R_lower ho9 (below_size (belU HB.out)));replace HB:=Aside0.mk (below_step (belU HB.out) hb);clear hb ho9))
      go_ret2;exact ⟨_,by rfl,rU HO342.out,belU HB.out⟩
    ·
     rw [if_neg c3] at H;exact absurd H (by simp)
   ·
    rw [if_neg c2] at H;have c2b0 : decide (x4_1 < (l0.length : Int)) = false:=decide_eq_false c2;clear c2;by_cases c10 : (l0.length : Int) > 6
    ·
     rw [if_pos c10] at H;have c10b0 : decide (6 < (l0.length : Int)) = true:=decide_eq_true c10;have c10b1 : decide (6 < l0.length) = true:=decide_eq_true (by omega);clear c10;obtain ⟨y343,hy343⟩ : ∃ y_ : List Int,y_ = (([] : List Int)):=⟨_,rfl⟩
     replace H : (some (y343,false)) = some (r1,r2):=by (rw [hy343];with_reducible exact H)
     have Ny343:=Aside0.mk hy343;clear hy343;simp only [Option.some.injEq,Prod.mk.injEq] at H;obtain ⟨rfl,rfl⟩:=H;go_wp2_with (((with_reducible refine gate_dst (N:=26) rfl ?_);refine Kd.R_lit (Kd.int .i64) _ 3 ?hg (N:=26) ?hd (xs:=([] : List Int)) (inner:=[]) (ok:=fun _ => True) (okp:=fun _ => True) ?hr ?hp (fun _ hk => hk) trivial (Below.refl _ _) (Nat.le_refl _) (by simp) ?_;(case hd => rfl);(case hg => rfl);(case hr => go_simp;done);(case hp => exact (Reps.none _ _));intro v344 w11 ho12 hb hg_ hnew_;clear hg_ hnew_;(rw [← Ny343.out] at ho12);have HO345:=Aside0.mk (Kd.R_lower ho12 (below_size (belU HB.out)));replace HB:=Aside0.mk (below_step (belU HB.out) hb);clear hb ho12))
     go_ret2;exact ⟨_,by rfl,rU HO345.out,belU HB.out⟩
    ·
     rw [if_neg c10] at H;have c10b0 : decide (6 < (l0.length : Int)) = false:=decide_eq_false c10;have c10b1 : decide (6 < l0.length) = false:=decide_eq_false (by omega);clear c10;by_cases c13 : 4 ≤ 35184372088832
     ·
      rw [if_pos c13] at H;have c13b0:=eq_true c13;have c13b1 : decide (4 ≤ 35184372088832) = true:=decide_eq_true c13;clear c13;obtain ⟨y346,hy346⟩ : ∃ y_ : List Int,y_ = (List.replicate 4 0):=⟨_,rfl⟩
      replace H : ((spec_CornersOf.f k1 l0).bind fun t349 => (spec_CountsFor.l1 k1 l0 y346 t349 0)) = some (r1,r2):=by (rw [hy346];with_reducible exact H)
      have Ny346:=Aside0.mk hy346;clear hy346;replace H:=Option.bind_eq_some_iff.mp H;obtain ⟨t349,A140,H⟩:=H;have A14:=Aside0.mk A140;clear A140;have H':=Aside0.mk H;clear H;go_wp2_with (first|((with_reducible refine gate_dst (N:=27) rfl ?_);refine Kd.R_make (Kd.int .i64) _ 3 rfl (N:=27) rfl 29 _ _ rfl 4 rfl rfl Try.underlying29 (.int .i64 0) 8 info3 rfl (by decide) (by omega) 0 (ok:=fun _ => True) (okp:=fun _ => True) rfl (fun _ hk => hk) trivial (by omega) (by omega) (Below.refl _ _) (Nat.le_refl _) ?_;intro v347 w15 ho16 hb hg_ hnew_;clear hg_ hnew_;((simp only [Int.reduceToNat] at ho16;rw [← Ny346.out] at ho16));have HO348:=Aside0.mk (Kd.R_lower ho16 (below_size (belU HB.out)));replace HB:=Aside0.mk (below_step (belU HB.out) hb);clear hb ho16)|((with_reducible refine gate_callee (f:=35) rfl ?_);refine goesL_ (some 29) rfl rfl Try.func35 (by kernel_rfl) rfl #[.slice A0 l0.length c0] rfl (by (try simp only [List.map_toArray,List.map_cons,List.map_nil]);rfl) ?_;(with_reducible refine (spec_CornersOf.calls k1 _ _ l0 t349 _ ?side1 ?side2 A14.out).mono ?_);(case side1 => exact cU (Kd.C_below HR0.out HB.out));(case side2 => exact HC0.out);rintro e w17 ⟨v350,rfl,ho0,hb⟩;refine ⟨_,rfl,?_⟩;have HO351:=Aside0.mk (Kd.N_lower (Kd.N_mono (ok':=fun k_ => some k_ ≠ (v347 : Value).ownBlock) ho0 (fun k_ hk_ => (Kd.fresh' (Kd.R_lt (rU HO348.out)) k_ hk_))) (below_size (belU HB.out)));replace HO348:=Aside0.mk (Kd.R_below (rU HO348.out) hb);replace HB:=Aside0.mk (below_step (belU HB.out) hb);(try clear hb);(try clear ho0)))
      go_loopg [7] k1 (fun kq v7 w' => ∃ (x5_2 : List Int) (x7_2 : Int),v7 = .int .i64 x7_2 ∧ Aside0 (spec_CountsFor.l1 kq l0 x5_2 t349 x7_2 = some (r1,r2)) ∧ Aside0 (kq ≤ k1) ∧ Aside0 (Kd.R (Kd.int .i64) 3 w' w.heap.size (fun _ => True) v347 x5_2) ∧ Aside0 (Kd.N (Kd.slice 3 (Kd.int .i64)) 29 w' w.heap.size (fun k_ => some k_ ≠ (v347 : Value).ownBlock) v350 t349) ∧ Aside0 (Below w.heap.size w w'));case atStart => exact ⟨(y346),(0),(by rfl),H',⟨Nat.le_refl _⟩,⟨rU HO348.out⟩,⟨by exact HO351.out⟩,⟨belU HB.out⟩⟩
      case round =>
       clear H';clear c2b0 c10b0 c10b1 c13b0 c13b1;obtain ⟨x5_2,x7_2,rfl,HA,HK2,HO_5,HO_6,HB⟩:=hrel;cases gk with
       | zero => exact absurd HA.out (by simp [spec_CountsFor.l1])
       | succ k2 =>
        have H:=HA.out;clear HA;simp only [spec_CountsFor.l1] at H;by_cases c18 : x7_2 < (t349.length : Int)
        ·
         rw [if_pos c18] at H;have c18b0 : decide (x7_2 < (t349.length : Int)) = true:=decide_eq_true c18;clear c18;have H':=Aside0.mk H;clear H;obtain ⟨Ao19,co19,eo19⟩:=Kd.N_slice HO_6.out;subst eo19;go_wp2;go_loopg [8] k2 (fun kq v8 w' => ∃ (x5_3 : List Int) (x8_3 : Int),v8 = .int .i64 x8_3 ∧ Aside0 (spec_CountsFor.l2 kq l0 x5_3 t349 x7_2 x8_3 = some (r1,r2)) ∧ Aside0 (kq ≤ k2) ∧ Aside0 (Kd.R (Kd.int .i64) 3 w' w.heap.size (fun _ => True) v347 x5_3) ∧ Aside0 (Kd.N (Kd.slice 3 (Kd.int .i64)) 29 w' w.heap.size (fun k_ => some k_ ≠ (v347 : Value).ownBlock) (.slice Ao19 t349.length co19) t349) ∧ Aside0 (Below w.heap.size w w'));case atStart => exact ⟨(x5_2),(0),(by rfl),H',⟨Nat.le_refl _⟩,⟨rU HO_5.out⟩,⟨by exact HO_6.out⟩,⟨belU HB.out⟩⟩
         case round =>
          clear H';clear c18b0;obtain ⟨x5_3,x8_3,rfl,HA,HK3,HO_5,HO_6,HB⟩:=hrel;cases gk with
          | zero => exact absurd HA.out (by simp [spec_CountsFor.l2])
          | succ k3 =>
           have H:=HA.out;clear HA;simp only [spec_CountsFor.l2] at H;by_cases c20 : x8_3 < 4
           ·
            rw [if_pos c20] at H;have c20b0 : decide (x8_3 < 4) = true:=decide_eq_true c20;clear c20;by_cases c21 : 0 ≤ x8_3
            ·
             rw [if_pos c21] at H;have c21b0 : decide (0 ≤ x8_3) = true:=decide_eq_true c21;clear c21;by_cases c22 : x8_3 < (x5_3.length : Int)
             ·
              rw [if_pos c22] at H;have c22b0 : decide (x8_3 < (x5_3.length : Int)) = true:=decide_eq_true c22;clear c22;by_cases c23 : 0 ≤ x7_2
              ·
               rw [if_pos c23] at H;have c23b0 : decide (0 ≤ x7_2) = true:=decide_eq_true c23;clear c23;by_cases c24 : x7_2 < (t349.length : Int)
               ·
                rw [if_pos c24] at H;have c24b0 : decide (x7_2 < (t349.length : Int)) = true:=decide_eq_true c24;clear c24;by_cases c25 : x8_3 < ((rd_L5 t349 x7_2).length : Int)
                ·
                 rw [if_pos c25] at H;have c25b0 : decide (x8_3 < ((rd_L5 t349 x7_2).length : Int)) = true:=decide_eq_true c25;clear c25;obtain ⟨y355,hy355⟩ : ∃ y_ : List Int,y_ = (x5_3.set (x8_3 : Int).toNat (wrap64 ((rd x5_3 x8_3) + (rd (rd_L5 t349 x7_2) x8_3)))):=⟨_,rfl⟩
                 replace H : (spec_CountsFor.l2 k3 l0 y355 t349 x7_2 (wrap64 (x8_3 + 1))) = some (r1,r2):=by (rw [hy355];with_reducible exact H)
                 have Ny355:=Aside0.mk hy355;clear hy355;have H':=Aside0.mk H;clear H;try go_wp2
                 replace HO_5:=Aside0.mk (Kd.R_drew HO_5.out);replace HO_6:=Aside0.mk (Kd.N_drew HO_6.out);replace HB:=Aside0.mk (below_drew1 HB.out);obtain ⟨Ao28,co28,eo28⟩:=Kd.R_slice HO_5.out;(subst eo28);have p352 : 0 ≤ (x8_3 : Int):=of_decide_eq_true (by (with_reducible assumption));have q352 : x8_3 < (x5_3.length : Int):=of_decide_eq_true (by (with_reducible assumption));obtain ⟨ad352,e352,hx352_0⟩:=Kd.at_int (Kd.R_reads' HO_5.out).2.2 x8_3 p352 q352;cases e352;replace p352:=eq_true p352;replace q352:=eq_true q352;have p353 : 0 ≤ (x7_2 : Int):=of_decide_eq_true (by (with_reducible assumption));have q353 : x7_2 < (t349.length : Int):=of_decide_eq_true (by (with_reducible assumption));obtain ⟨ad353,A353_0,c353_0,e353,hx353_0,hl353_0,hi353_0⟩:=at_L5 (Kd.N_reads' HO_6.out).2.2 x7_2 p353 q353;cases e353;obtain ⟨ce353,hce353,hMe353,hcc353⟩:=Kd.N_get HO_6.out [] x7_2 p353 (by exact q353);obtain ⟨ua353_0,uc353_0,rfl,ul353_0,ge353_0⟩:=Kd.FK_slice_open hMe353;have hv353_0:=hcc353 0 _ rfl;rw [Nat.add_zero,show ((Kd.slice 3 (Kd.int .i64))).sz = 1 from rfl,Nat.mul_one] at hv353_0;replace hv353_0:=Option.some.inj (hv353_0.symm.trans hx353_0);injection hv353_0 with hva_ hvn_ hvc_;rw [hva_] at ge353_0;rw [hvc_] at ul353_0;have HL353_0:=Aside0.mk (show Kd.V (Kd.int .i64) 3 _ w.heap.size _ _ (rd_L5 t349 x7_2) from Kd.V_mk ul353_0 ge353_0);clear hva_ hvn_ hvc_ ge353_0 ul353_0 hcc353 hce353;have HR353_0:=Aside0.mk hi353_0;have HC353_0:=Aside0.mk hl353_0;clear hi353_0 hl353_0;replace p353:=eq_true p353;replace q353:=eq_true q353;have p354 : 0 ≤ (x8_3 : Int):=of_decide_eq_true (by (with_reducible assumption));have q354 : x8_3 < ((rd_L5 t349 x7_2).length : Int):=of_decide_eq_true (by (with_reducible assumption));obtain ⟨ad354,e354,hx354_0⟩:=Kd.at_int HR353_0.out x8_3 p354 q354;cases e354;replace p354:=eq_true p354;replace q354:=eq_true q354;have p26 : 0 ≤ (x8_3 : Int):=of_decide_eq_true (by (with_reducible assumption));have q26 : (x8_3 : Int) < ((x5_3.length : Int) : Int):=of_decide_eq_true (by (with_reducible assumption));obtain ⟨go26,co26,eo26,gb26,gl26,cl26,HG26⟩:=Kd.R_form HO_5.out (by omega);(cases eo26);have GB26:=Aside0.mk gb26;have GG26:=Aside0.mk HG26;clear gb26 gl26 HG26;(simp only [add_plain] at hx352_0);obtain ⟨hx26_0,hf26_0⟩:=Kd.R_celln 0 HO_5.out (x8_3 : Int) p26 q26;replace p26:=eq_true p26;replace q26:=eq_true q26;have HP29:=Kd.R_putn HO_5.out (x8_3 : Int) (wrap64 ((rd x5_3 x8_3) + (rd (rd_L5 t349 x7_2) x8_3)));rw [← Ny355.out] at HP29;have HQ29:=Aside0.mk HP29;clear HP29;refine start_ (n:=16) (S:=fun w' => w'.cell? ⟨go26,(x8_3).toNat,none⟩ = some (.int .i64 (rd x5_3 x8_3)) ∧ w'.cell? (ad353.add (x7_2).toNat) = some (.slice (some ad354) (rd_L5 t349 x7_2).length c353_0) ∧ w'.cell? (ad354.add (x8_3).toNat) = some (.int .i64 (rd (rd_L5 t349 x7_2) x8_3))) (ds:=[15]) #[false,false,false,false,false,false,false,false,false,false,false,false,false,false,false,false] (by kernel_rfl) rfl rfl ⟨hx352_0,hx353_0,hx354_0⟩ (fun hHeld => ?_);refine with_tabW spec_CountsFor.tab16 spec_CountsFor.bits16 (fun HT_ HW_ => ?_);generalize wr.drew = w27 at HO_5 HO_6 HB GG26 HL353_0 HQ29 HR353_0 hf26_0 hx26_0 hx352_0 hx353_0 hx354_0 hHeld ⊢;refine pure_ (i:=0) (N:=some 40) (v:=?_) (a':=?_) #[true,false,false,false,false,false,false,false,false,false,false,false,false,false,false,false] rfl rfl (any_of HT_.out (by kernel_rfl)) (fun _ _ _ h => h) (Or.inl ⟨by rfl,?_⟩) ?_ ?_;rotate_left
                 ·
                  intro w';go_simp
                  with_reducible rfl
                 rotate_left
                 ·
                  simp only [Act.put,List.setIfInBounds_toArray,List.set_cons_zero,List.set_cons_succ,i64_w,i32_w];rfl
                 refine pure_ (i:=1) (N:=some 41) (v:=?_) (a':=?_) #[true,true,false,false,false,false,false,false,false,false,false,false,false,false,false,false] rfl rfl (any_of HT_.out (by kernel_rfl)) (fun _ _ _ h => h) (Or.inl ⟨by rfl,?_⟩) ?_ ?_;rotate_left
                 ·
                  intro w';go_simp
                  with_reducible rfl
                 rotate_left
                 ·
                  simp only [Act.put,List.setIfInBounds_toArray,List.set_cons_zero,List.set_cons_succ,i64_w,i32_w];rfl
                 refine pure_ (i:=2) (N:=some 42) (v:=?_) (a':=?_) #[true,true,true,false,false,false,false,false,false,false,false,false,false,false,false,false] rfl rfl (any_of HT_.out (by kernel_rfl)) (fun _ _ _ h => h) (Or.inl ⟨by rfl,?_⟩) ?_ ?_;rotate_left
                 ·
                  intro w';go_simp
                  with_reducible rfl
                 rotate_left
                 ·
                  simp only [Act.put,List.setIfInBounds_toArray,List.set_cons_zero,List.set_cons_succ,i64_w,i32_w];rfl
                 refine pure_ (i:=3) (N:=some 43) (v:=?_) (a':=?_) #[true,true,true,true,false,false,false,false,false,false,false,false,false,false,false,false] rfl rfl (any_of HT_.out (by kernel_rfl)) (fun _ _ _ h => h) (Or.inl ⟨by rfl,?_⟩) ?_ ?_;rotate_left
                 ·
                  intro w';go_simp
                  with_reducible rfl
                 rotate_left
                 ·
                  simp only [Act.put,List.setIfInBounds_toArray,List.set_cons_zero,List.set_cons_succ,i64_w,i32_w];rfl
                 refine pure_ (i:=4) (N:=some 44) (v:=?_) (a':=?_) #[true,true,true,true,true,false,false,false,false,false,false,false,false,false,false,false] rfl rfl (any_of HT_.out (by kernel_rfl)) (fun _ _ _ h => h) (Or.inl ⟨by rfl,?_⟩) ?_ ?_;rotate_left
                 ·
                  intro w';go_simp
                  with_reducible rfl
                 rotate_left
                 ·
                  simp only [Act.put,List.setIfInBounds_toArray,List.set_cons_zero,List.set_cons_succ,i64_w,i32_w];rfl
                 refine pure_ (i:=6) (N:=some 46) (v:=?_) (a':=?_) #[true,true,true,true,true,false,true,false,false,false,false,false,false,false,false,false] rfl rfl (any_of HT_.out (by kernel_rfl)) (fun _ _ _ h => h) (Or.inl ⟨by rfl,?_⟩) ?_ ?_;rotate_left
                 ·
                  intro w';go_simp
                  with_reducible rfl
                 rotate_left
                 ·
                  simp only [Act.put,List.setIfInBounds_toArray,List.set_cons_zero,List.set_cons_succ,i64_w,i32_w];rfl
                 refine pure_ (i:=7) (N:=some 47) (v:=?_) (a':=?_) #[true,true,true,true,true,false,true,true,false,false,false,false,false,false,false,false] rfl rfl (any_of HT_.out (by kernel_rfl)) (fun _ _ _ h => h) (Or.inl ⟨by rfl,?_⟩) ?_ ?_;rotate_left
                 ·
                  intro w';go_simp
                  with_reducible rfl
                 rotate_left
                 ·
                  simp only [Act.put,List.setIfInBounds_toArray,List.set_cons_zero,List.set_cons_succ,i64_w,i32_w];rfl
                 refine pure_ (i:=8) (N:=some 48) (v:=?_) (a':=?_) #[true,true,true,true,true,false,true,true,true,false,false,false,false,false,false,false] rfl rfl (any_of HT_.out (by kernel_rfl)) (fun _ _ _ h => h) (Or.inl ⟨by rfl,?_⟩) ?_ ?_;rotate_left
                 ·
                  intro w';go_simp
                  with_reducible rfl
                 rotate_left
                 ·
                  simp only [Act.put,List.setIfInBounds_toArray,List.set_cons_zero,List.set_cons_succ,i64_w,i32_w];rfl
                 refine pure_ (i:=10) (N:=some 50) (v:=?_) (a':=?_) #[true,true,true,true,true,false,true,true,true,false,true,false,false,false,false,false] rfl rfl (any_of HT_.out (by kernel_rfl)) (fun _ _ _ h => h) (Or.inl ⟨by rfl,?_⟩) ?_ ?_;rotate_left
                 ·
                  intro w';go_simp
                  with_reducible rfl
                 rotate_left
                 ·
                  simp only [Act.put,List.setIfInBounds_toArray,List.set_cons_zero,List.set_cons_succ,i64_w,i32_w];rfl
                 refine take_ (i:=5) (N:=some 45) (v:=?_) (a':=?_) #[true,true,true,true,true,true,true,true,true,false,true,false,false,false,false,false] rfl rfl (take_ofW HT_.out HW_.out (by kernel_rfl)) (fun _ _ _ h => h) (Or.inl ⟨by rfl,?_⟩) hHeld ?_ ?_;rotate_left
                 ·
                  rintro w' ⟨s0,s1,s2⟩;go_simp
                  with_reducible rfl
                 rotate_left
                 ·
                  simp only [Act.put,List.setIfInBounds_toArray,List.set_cons_zero,List.set_cons_succ,i64_w,i32_w];rfl
                 refine take_ (i:=9) (N:=some 49) (v:=?_) (a':=?_) #[true,true,true,true,true,true,true,true,true,true,true,false,false,false,false,false] rfl rfl (take_ofW HT_.out HW_.out (by kernel_rfl)) (fun _ _ _ h => h) (Or.inl ⟨by rfl,?_⟩) hHeld ?_ ?_;rotate_left
                 ·
                  rintro w' ⟨s0,s1,s2⟩;go_simp
                  with_reducible rfl
                 rotate_left
                 ·
                  simp only [Act.put,List.setIfInBounds_toArray,List.set_cons_zero,List.set_cons_succ,i64_w,i32_w];rfl
                 refine pure_ (i:=11) (N:=some 51) (v:=?_) (a':=?_) #[true,true,true,true,true,true,true,true,true,true,true,true,false,false,false,false] rfl rfl (any_of HT_.out (by kernel_rfl)) (fun _ _ _ h => h) (Or.inl ⟨by rfl,?_⟩) ?_ ?_;rotate_left
                 ·
                  intro w';go_simp
                  with_reducible rfl
                 rotate_left
                 ·
                  simp only [Act.put,List.setIfInBounds_toArray,List.set_cons_zero,List.set_cons_succ,i64_w,i32_w];rfl
                 refine take_ (i:=12) (N:=some 52) (v:=?_) (a':=?_) #[true,true,true,true,true,true,true,true,true,true,true,true,true,false,false,false] rfl rfl (take_ofW HT_.out HW_.out (by kernel_rfl)) (fun _ _ _ h => h) (Or.inl ⟨by rfl,?_⟩) hHeld ?_ ?_;rotate_left
                 ·
                  rintro w' ⟨s0,s1,s2⟩;go_simp
                  with_reducible rfl
                 rotate_left
                 ·
                  simp only [Act.put,List.setIfInBounds_toArray,List.set_cons_zero,List.set_cons_succ,i64_w,i32_w];rfl
                 refine pure_ (i:=13) (N:=some 53) (v:=?_) (a':=?_) #[true,true,true,true,true,true,true,true,true,true,true,true,true,true,false,false] rfl rfl (any_of HT_.out (by kernel_rfl)) (fun _ _ _ h => h) (Or.inl ⟨by rfl,?_⟩) ?_ ?_;rotate_left
                 ·
                  intro w';go_simp
                  with_reducible rfl
                 rotate_left
                 ·
                  simp only [Act.put,List.setIfInBounds_toArray,List.set_cons_zero,List.set_cons_succ,i64_w,i32_w];rfl
                 refine pure_ (i:=14) (N:=some 54) (v:=?_) (a':=?_) #[true,true,true,true,true,true,true,true,true,true,true,true,true,true,true,false] rfl rfl (any_of HT_.out (by kernel_rfl)) (fun _ _ _ h => h) (Or.inl ⟨by rfl,?_⟩) ?_ ?_;rotate_left
                 ·
                  intro w';go_simp
                  with_reducible rfl
                 rotate_left
                 ·
                  simp only [Act.put,List.setIfInBounds_toArray,List.set_cons_zero,List.set_cons_succ,i64_w,i32_w];rfl
                 refine last_ (i:=15) (N:=none) #[true,true,true,true,true,true,true,true,true,true,true,true,true,true,true,true] rfl rfl (one_of HT_.out (by kernel_rfl)) (by decide) (fun K hK => ?_);refine skip_ (w1:=?_) (by rfl) rfl ?_ ?_;rotate_left
                 ·
                  go_simp;rfl
                 refine hK.out _ _ ?_;clear hK K;refine done_ (done_of HT_.out (by kernel_rfl)) ?_;try go_wp2
                 go_roundg k3;case measure => have:=HK1.out;have:=HK2.out;have:=HK3.out;omega
                 case rel => exact ⟨(y355),(wrap64 (x8_3 + 1)),(by rfl),H',⟨by have:=HK1.out;have:=HK2.out;have:=HK3.out;omega⟩,⟨rU HQ29.out⟩,⟨by exact Kd.N_mono (Kd.N_far (p:=⟨go26,(x8_3 : Int).toNat,none⟩) (Kd.N_mono HO_6.out (fun k_ hk => (⟨hk,fun e_ => hk (by rw [e_];rfl)⟩ : _ ∧ k_ ≠ go26))) (fun _ hk => hk.2) (.int .i64 (wrap64 ((rd x5_3 x8_3) + (rd (rd_L5 t349 x7_2) x8_3))))) (fun _ hk => hk.1)⟩,⟨by repeat (with_reducible first|exact HB.out|refine below_set ?_ GB26.out)⟩⟩
                ·
                 rw [if_neg c25] at H;exact absurd H (by simp)
               ·
                rw [if_neg c24] at H;exact absurd H (by simp)
              ·
               rw [if_neg c23] at H;exact absurd H (by simp)
             ·
              rw [if_neg c22] at H;exact absurd H (by simp)
            ·
             rw [if_neg c21] at H;exact absurd H (by simp)
           ·
            rw [if_neg c20] at H;have c20b0 : decide (x8_3 < 4) = false:=decide_eq_false c20;clear c20;have H':=Aside0.mk H;clear H;go_wp2;go_roundg k3;case measure => have:=HK1.out;have:=HK2.out;have:=HK3.out;omega
            case rel => exact ⟨(x5_3),(wrap64 (x7_2 + 1)),(by rfl),H',⟨by have:=HK1.out;have:=HK2.out;have:=HK3.out;omega⟩,⟨rU HO_5.out⟩,⟨by exact HO_6.out⟩,⟨belU HB.out⟩⟩
        ·
         rw [if_neg c18] at H;have c18b0 : decide (x7_2 < (t349.length : Int)) = false:=decide_eq_false c18;clear c18;have H':=Aside0.mk H;clear H;obtain ⟨Ao30,co30,eo30⟩:=Kd.N_slice HO_6.out;subst eo30;go_wp2;go_loopg [9] k2 (fun kq v9 w' => ∃ (x9_3 : Int),v9 = .int .i64 x9_3 ∧ Aside0 (spec_CountsFor.l3 kq l0 x5_2 x9_3 = some (r1,r2)) ∧ Aside0 (kq ≤ k2) ∧ Aside0 (Kd.R (Kd.int .i64) 3 w' w.heap.size (fun _ => True) v347 x5_2) ∧ Aside0 (Below w.heap.size w w'));case atStart => exact ⟨(0),(by rfl),H',⟨Nat.le_refl _⟩,⟨rU HO_5.out⟩,⟨belU HB.out⟩⟩
         case round =>
          clear H';clear c18b0;obtain ⟨x9_3,rfl,HA,HK3,HO_5,HB⟩:=hrel;cases gk with
          | zero => exact absurd HA.out (by simp [spec_CountsFor.l3])
          | succ k3 =>
           have H:=HA.out;clear HA;simp only [spec_CountsFor.l3] at H;by_cases c31 : x9_3 < (l0.length : Int)
           ·
            rw [if_pos c31] at H;have c31b0 : decide (x9_3 < (l0.length : Int)) = true:=decide_eq_true c31;clear c31;by_cases c32 : 0 ≤ x9_3
            ·
             rw [if_pos c32] at H;have c32b0 : decide (0 ≤ x9_3) = true:=decide_eq_true c32;clear c32;replace H:=Option.bind_eq_some_iff.mp H;obtain ⟨t357,A330,H⟩:=H;have A33:=Aside0.mk A330;clear A330;by_cases c34 : t357 = true
             ·
              subst c34;have H1 : (spec_CountsFor.l3 k3 l0 x5_2 (wrap64 (x9_3 + 1))) = some (r1,r2):=by rw [if_pos rfl] at H;exact H
              clear H;have H:=H1;clear H1;have H':=Aside0.mk H;clear H;have p356 : 0 ≤ (x9_3 : Int):=of_decide_eq_true (by (with_reducible assumption));have q356 : x9_3 < (l0.length : Int):=of_decide_eq_true (by (with_reducible assumption));obtain ⟨ad356,e356,hx356_0,hx356_1,hx356_2⟩:=at_T25 HR0.out x9_3 p356 q356;cases e356;replace hx356_0:=(HB.out.cell (World.block_lt_of_cell? w _ hx356_0)).trans hx356_0;replace hx356_1:=(HB.out.cell (World.block_lt_of_cell? w _ hx356_1)).trans hx356_1;replace hx356_2:=(HB.out.cell (World.block_lt_of_cell? w _ hx356_2)).trans hx356_2;replace p356:=eq_true p356;replace q356:=eq_true q356;obtain ⟨Ao35,co35,eo35⟩:=Kd.R_slice HO_5.out;subst eo35;go_wp2_with (((with_reducible refine gate_callee (f:=36) rfl ?_);refine goesL_ (some 66) rfl rfl Try.func36 (by kernel_rfl) rfl #[.slice Ao35 x5_2.length co35,.agg #[.int .i64 ((rd_T25 l0 x9_3).f0),.int .i64 ((rd_T25 l0 x9_3).f1),.int .i64 ((rd_T25 l0 x9_3).f2)]] rfl (by (try simp only [List.map_toArray,List.map_cons,List.map_nil]);rfl) ?_;(with_reducible refine (spec_WeighSo.calls k3 _ _ x5_2 ((rd_T25 l0 x9_3).f0) ((rd_T25 l0 x9_3).f1) ((rd_T25 l0 x9_3).f2) true _ ?side1 ?side2 A33.out).mono ?_);(case side1 => exact cU (Kd.R_reads' HO_5.out).2.2);(case side2 => exact (Kd.R_reads' HO_5.out).2.1);rintro e w36 ⟨rfl,hb⟩;refine ⟨_,rfl,?_⟩;replace HO_5:=Aside0.mk (Kd.R_below (rU HO_5.out) hb);replace HB:=Aside0.mk (below_step (belU HB.out) hb);(try clear hb)))
              go_roundg k3;case measure => have:=HK1.out;have:=HK2.out;have:=HK3.out;omega
              case rel => exact ⟨(wrap64 (x9_3 + 1)),(by rfl),H',⟨by have:=HK1.out;have:=HK2.out;have:=HK3.out;omega⟩,⟨rU HO_5.out⟩,⟨belU HB.out⟩⟩
             ·
              replace c34:=Bool.eq_false_iff.mpr c34;subst c34;have H1 : (some ((([] : List Int)),false)) = some (r1,r2):=by rw [if_neg (show ¬ (false = true) by decide)] at H;exact H
              clear H;have H:=H1;clear H1;obtain ⟨y358,hy358⟩ : ∃ y_ : List Int,y_ = (([] : List Int)):=⟨_,rfl⟩
              replace H : (some (y358,false)) = some (r1,r2):=by (rw [hy358];with_reducible exact H)
              have Ny358:=Aside0.mk hy358;clear hy358;simp only [Option.some.injEq,Prod.mk.injEq] at H;obtain ⟨rfl,rfl⟩:=H;have p356 : 0 ≤ (x9_3 : Int):=of_decide_eq_true (by (with_reducible assumption));have q356 : x9_3 < (l0.length : Int):=of_decide_eq_true (by (with_reducible assumption));obtain ⟨ad356,e356,hx356_0,hx356_1,hx356_2⟩:=at_T25 HR0.out x9_3 p356 q356;cases e356;replace hx356_0:=(HB.out.cell (World.block_lt_of_cell? w _ hx356_0)).trans hx356_0;replace hx356_1:=(HB.out.cell (World.block_lt_of_cell? w _ hx356_1)).trans hx356_1;replace hx356_2:=(HB.out.cell (World.block_lt_of_cell? w _ hx356_2)).trans hx356_2;replace p356:=eq_true p356;replace q356:=eq_true q356;obtain ⟨Ao37,co37,eo37⟩:=Kd.R_slice HO_5.out;subst eo37;go_wp2_with (first|((with_reducible refine gate_callee (f:=36) rfl ?_);refine goesL_ (some 66) rfl rfl Try.func36 (by kernel_rfl) rfl #[.slice Ao37 x5_2.length co37,.agg #[.int .i64 ((rd_T25 l0 x9_3).f0),.int .i64 ((rd_T25 l0 x9_3).f1),.int .i64 ((rd_T25 l0 x9_3).f2)]] rfl (by (try simp only [List.map_toArray,List.map_cons,List.map_nil]);rfl) ?_;(with_reducible refine (spec_WeighSo.calls k3 _ _ x5_2 ((rd_T25 l0 x9_3).f0) ((rd_T25 l0 x9_3).f1) ((rd_T25 l0 x9_3).f2) false _ ?side1 ?side2 A33.out).mono ?_);(case side1 => exact cU (Kd.R_reads' HO_5.out).2.2);(case side2 => exact (Kd.R_reads' HO_5.out).2.1);rintro e w38 ⟨rfl,hb⟩;refine ⟨_,rfl,?_⟩;replace HO_5:=Aside0.mk (Kd.R_below (rU HO_5.out) hb);replace HB:=Aside0.mk (below_step (belU HB.out) hb);(try clear hb))|((with_reducible refine gate_dst (N:=68) rfl ?_);refine Kd.R_lit (Kd.int .i64) _ 3 ?hg (N:=68) ?hd (xs:=([] : List Int)) (inner:=[]) (ok:=fun _ => True) (okp:=fun _ => True) ?hr ?hp (fun _ hk => hk) trivial (Below.refl _ _) (Nat.le_refl _) (by simp) ?_;(case hd => rfl);(case hg => rfl);(case hr => go_simp;done);(case hp => exact (Reps.none _ _));intro v359 w39 ho40 hb hg_ hnew_;clear hg_ hnew_;(rw [← Ny358.out] at ho40);have HO360:=Aside0.mk (Kd.R_lower (Kd.R_new' ho40 (Kd.R_lt (rU HO_5.out))) (below_size (belU HB.out)));replace HO_5:=Aside0.mk (Kd.R_elder' (rU HO_5.out) (Kd.R_base ho40) hb);replace HB:=Aside0.mk (below_step (belU HB.out) hb);clear hb ho40))
              go_ret2;exact ⟨_,by rfl,by exact Kd.R_mono HO360.out (fun _ hk => trivial),belU HB.out⟩
            ·
             rw [if_neg c32] at H;exact absurd H (by simp)
           ·
            rw [if_neg c31] at H;have c31b0 : decide (x9_3 < (l0.length : Int)) = false:=decide_eq_false c31;clear c31;simp only [Option.some.injEq,Prod.mk.injEq] at H;obtain ⟨rfl,rfl⟩:=H;go_wp2;go_ret2;exact ⟨_,by rfl,rU HO_5.out,belU HB.out⟩
     ·
      rw [if_neg c13] at H;exact absurd H (by simp)

end Go.Proofs.Ytmkfmbjemdbigaa.PA
