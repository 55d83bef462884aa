/- The machine side of functions of this seat, written by the session's program myprint.py: for each Go function a Lean function and the proof that the call answers just it. -/
import Derived.Test.YtmbninbecclbiaaPAx0
import Derived.Test.YtmbninbecclbiaaUp
import Derived.Test.YtmbninbecclbiaaPAx1
import Derived.Test.YtmbninbecclbiaaPAx8
import Derived.Test.YtmbninbecclbiaaPAx9
namespace Go.Proofs.Ytmbninbecclbiaa.PA
open Go.RowKit Go.Proofs.YtmbninbecclbiaaW.PrintWords Go.Proofs.YtmbninbecclbiaaW.PrintLast Go.Proofs.YtmbninbecclbiaaW.PrintMore
attribute [local go_sem] max2_int min2_int max_two min_two max_three min_three max_four min_four   -- for this text's walks alone
set_option linter.unusedVariables false
set_option linter.unusedSimpArgs false

/-! ### spec_CountsFor: function 16 -/
mutual
def spec_CountsFor.l0 : Nat → List (S29) → Int → Option (List Int × Bool)
 | 0,_,_ => none
 | k + 1,x0,x4 => if x4 < (x0.length : Int) then (if 0 ≤ x4 then ((spec_WeighOk.f ((rd_T29 x0 x4).f0) ((rd_T29 x0 x4).f1) ((rd_T29 x0 x4).f2)).bind fun t225 => (if t225 = true then (spec_CountsFor.l0 k x0 (wrap64 (x4 + 1))) else (some ((([] : List Int)),false)))) else (none)) else (if (x0.length : Int) > 6 then (some ((([] : List Int)),false)) else (if 4 ≤ 35184372088832 then ((spec_CornersOf.f k x0).bind fun t235 => (spec_CountsFor.l1 k x0 (List.replicate 4 0) t235 0)) else (none)))
def spec_CountsFor.l1 : Nat → List (S29) → List Int → List (List Int) → Int → Option (List Int × Bool)
 | 0,_,_,_,_ => none
 | k + 1,x0,x5,x6,x7 => if x7 < (x6.length : Int) then (spec_CountsFor.l2 k x0 x5 x6 x7 0) else (spec_CountsFor.l3 k x0 x5 0)
def spec_CountsFor.l2 : Nat → List (S29) → List Int → List (List Int) → Int → Int → Option (List Int × Bool)
 | 0,_,_,_,_,_ => none
 | k + 1,x0,x5,x6,x7,x8 => if x8 < 4 then (if 0 ≤ x8 then (if x8 < (x5.length : Int) then (if 0 ≤ x7 then (if x7 < (x6.length : Int) then (if x8 < ((rd_L2 x6 x7).length : Int) then (spec_CountsFor.l2 k x0 (x5.set (x8 : Int).toNat (wrap64 ((rd x5 x8) + (rd (rd_L2 x6 x7) x8)))) x6 x7 (wrap64 (x8 + 1))) else (none)) else (none)) else (none)) else (none)) else (none)) else (spec_CountsFor.l1 k x0 x5 x6 (wrap64 (x7 + 1)))
def spec_CountsFor.l3 : Nat → List (S29) → List Int → Int → Option (List Int × Bool)
 | 0,_,_,_ => none
 | k + 1,x0,x5,x9 => if x9 < (x0.length : Int) then (if 0 ≤ x9 then ((spec_WeighSo.f k x5 ((rd_T29 x0 x9).f0) ((rd_T29 x0 x9).f1) ((rd_T29 x0 x9).f2)).bind fun t243 => (if t243 = true then (spec_CountsFor.l3 k x0 x5 (wrap64 (x9 + 1))) else (some ((([] : List Int)),false)))) else (none)) else (some (x5,true))
end
def spec_CountsFor.f (k : Nat) (l0 : List (S29)) : Option (List Int × Bool):=spec_CountsFor.l0 k l0 0
theorem spec_CountsFor.mono_l : ∀ k,(∀ y0 y1,LeO (spec_CountsFor.l0 k y0 y1) (spec_CountsFor.l0 (k + 1) y0 y1)) ∧ (∀ y0 y1 y2 y3,LeO (spec_CountsFor.l1 k y0 y1 y2 y3) (spec_CountsFor.l1 (k + 1) y0 y1 y2 y3)) ∧ (∀ y0 y1 y2 y3 y4,LeO (spec_CountsFor.l2 k y0 y1 y2 y3 y4) (spec_CountsFor.l2 (k + 1) y0 y1 y2 y3 y4)) ∧ (∀ y0 y1 y2,LeO (spec_CountsFor.l3 k y0 y1 y2) (spec_CountsFor.l3 (k + 1) y0 y1 y2))
 | 0 => ⟨fun _ _ r h => by simp [spec_CountsFor.l0] at h,fun _ _ _ _ r h => by simp [spec_CountsFor.l1] at h,fun _ _ _ _ _ r h => by simp [spec_CountsFor.l2] at h,fun _ _ _ r h => by simp [spec_CountsFor.l3] at h⟩
 | k + 1 => by
  obtain ⟨ih0,ih1,ih2,ih3⟩:=spec_CountsFor.mono_l k
  refine ⟨?_,?_,?_,?_⟩
  ·
   intro y0 y1
   unfold spec_CountsFor.l0
   repeat' first
   | (with_reducible exact ih0 _ _)
   | (with_reducible exact ih1 _ _ _ _)
   | (with_reducible exact ih2 _ _ _ _ _)
   | (with_reducible exact ih3 _ _ _)
   | (with_reducible exact spec_CornersOf.mono _ _)
   | (with_reducible exact spec_WeighSo.mono _ _ _ _ _)
   | (with_reducible exact LeO.refl _)
   | (with_reducible exact LeO.none _)
   | (with_reducible refine LeO.ite ?_ ?_)
   | (with_reducible refine LeO.bind ?_ (fun _ => ?_))
   | exact ih0 _ _
   | exact ih1 _ _ _ _
   | exact ih2 _ _ _ _ _
   | exact ih3 _ _ _
   | exact spec_CornersOf.mono _ _
   | exact spec_WeighSo.mono _ _ _ _ _
   | exact LeO.none _
   | refine LeO.ite ?_ ?_
   | refine LeO.bind ?_ (fun _ => ?_)
  ·
   intro y0 y1 y2 y3
   unfold spec_CountsFor.l1
   repeat' first
   | (with_reducible exact ih0 _ _)
   | (with_reducible exact ih1 _ _ _ _)
   | (with_reducible exact ih2 _ _ _ _ _)
   | (with_reducible exact ih3 _ _ _)
   | (with_reducible exact spec_CornersOf.mono _ _)
   | (with_reducible exact spec_WeighSo.mono _ _ _ _ _)
   | (with_reducible exact LeO.refl _)
   | (with_reducible exact LeO.none _)
   | (with_reducible refine LeO.ite ?_ ?_)
   | (with_reducible refine LeO.bind ?_ (fun _ => ?_))
   | exact ih0 _ _
   | exact ih1 _ _ _ _
   | exact ih2 _ _ _ _ _
   | exact ih3 _ _ _
   | exact spec_CornersOf.mono _ _
   | exact spec_WeighSo.mono _ _ _ _ _
   | exact LeO.none _
   | refine LeO.ite ?_ ?_
   | refine LeO.bind ?_ (fun _ => ?_)
  ·
   intro y0 y1 y2 y3 y4
   unfold spec_CountsFor.l2
   repeat' first
   | (with_reducible exact ih0 _ _)
   | (with_reducible exact ih1 _ _ _ _)
   | (with_reducible exact ih2 _ _ _ _ _)
   | (with_reducible exact ih3 _ _ _)
   | (with_reducible exact spec_CornersOf.mono _ _)
   | (with_reducible exact spec_WeighSo.mono _ _ _ _ _)
   | (with_reducible exact LeO.refl _)
   | (with_reducible exact LeO.none _)
   | (with_reducible refine LeO.ite ?_ ?_)
   | (with_reducible refine LeO.bind ?_ (fun _ => ?_))
   | exact ih0 _ _
   | exact ih1 _ _ _ _
   | exact ih2 _ _ _ _ _
   | exact ih3 _ _ _
   | exact spec_CornersOf.mono _ _
   | exact spec_WeighSo.mono _ _ _ _ _
   | exact LeO.none _
   | refine LeO.ite ?_ ?_
   | refine LeO.bind ?_ (fun _ => ?_)
  ·
   intro y0 y1 y2
   unfold spec_CountsFor.l3
   repeat' first
   | (with_reducible exact ih0 _ _)
   | (with_reducible exact ih1 _ _ _ _)
   | (with_reducible exact ih2 _ _ _ _ _)
   | (with_reducible exact ih3 _ _ _)
   | (with_reducible exact spec_CornersOf.mono _ _)
   | (with_reducible exact spec_WeighSo.mono _ _ _ _ _)
   | (with_reducible exact LeO.refl _)
   | (with_reducible exact LeO.none _)
   | (with_reducible refine LeO.ite ?_ ?_)
   | (with_reducible refine LeO.bind ?_ (fun _ => ?_))
   | exact ih0 _ _
   | exact ih1 _ _ _ _
   | exact ih2 _ _ _ _ _
   | exact ih3 _ _ _
   | exact spec_CornersOf.mono _ _
   | exact spec_WeighSo.mono _ _ _ _ _
   | exact LeO.none _
   | refine LeO.ite ?_ ?_
   | refine LeO.bind ?_ (fun _ => ?_)
theorem spec_CountsFor.mono : ∀ a0 k,LeO (spec_CountsFor.f k a0) (spec_CountsFor.f (k + 1) a0):=by
 intro a0 k
 obtain ⟨ih0,ih1,ih2,ih3⟩:=spec_CountsFor.mono_l k
 unfold spec_CountsFor.f
 repeat' first
   | (with_reducible exact ih0 _ _)
   | (with_reducible exact ih1 _ _ _ _)
   | (with_reducible exact ih2 _ _ _ _ _)
   | (with_reducible exact ih3 _ _ _)
   | (with_reducible exact spec_CornersOf.mono _ _)
   | (with_reducible exact spec_WeighSo.mono _ _ _ _ _)
   | (with_reducible exact LeO.refl _)
   | (with_reducible exact LeO.none _)
   | (with_reducible refine LeO.ite ?_ ?_)
   | (with_reducible refine LeO.bind ?_ (fun _ => ?_))
   | exact ih0 _ _
   | exact ih1 _ _ _ _
   | exact ih2 _ _ _ _ _
   | exact ih3 _ _ _
   | exact spec_CornersOf.mono _ _
   | exact spec_WeighSo.mono _ _ _ _ _
   | exact LeO.none _
   | refine LeO.ite ?_ ?_
   | refine LeO.bind ?_ (fun _ => ?_)
def spec_CountsFor.T16 : Bool × List (List Nat × List Nat):=(true,[([],[]),([],[]),([],[]),([],[]),([2,3],[2,3]),([4],[4]),([],[]),([],[]),([6,7],[6,7]),([8],[8]),([],[]),([9,10],[9,10]),([11],[11]),([5,12],[5,12]),([0,1,0,1,2,3,4,5,6,7,8,9,10,11,12,13],[0,1]),([14,13,0,1,2,3,4,5,6,7,8,9,10,11,12,13],[13,14])])
def spec_CountsFor.B16 : List Nat:=[0,0,0,0,12,28,0,0,192,448,0,1984,4032,8188,16383,32767]
theorem spec_CountsFor.tab16 : rtab .any (opsOf Try.f16 16) = spec_CountsFor.T16:=by kernel_rfl
theorem spec_CountsFor.bits16 : waitsOk spec_CountsFor.T16.2 spec_CountsFor.B16 = true:=by kernel_rfl
set_option maxHeartbeats 8000000 in
set_option maxRecDepth 100000 in
theorem spec_CountsFor.calls (k : Nat) (A0 : Option Addr) (c0 : Nat) (l0 : List (S29)) (r1 : List Int) (r2 : Bool) (w : World) (hr0 : Kd.C k29 w A0 l0.length l0) (hc0 : l0.length ≤ c0) (h : spec_CountsFor.f k l0 = some (r1,r2)) :
  Calls Try.prog 16 #[.slice A0 l0.length c0] w fun e w' => ∃ v0_ : Value,e = .returned (.tuple #[v0_,.bool r2]) ∧ Kd.R (Kd.int .i64) 3 w' w.heap.size (fun _ => True) v0_ r1 ∧ Below w.heap.size w w':=by
 have hu29:=Try.underlying29
 have HR0:=Aside0.mk hr0
 have HC0:=Aside0.mk hc0;clear hr0 hc0;have HB:=Aside0.mk (Below.refl w.heap.size w)
 have H : (spec_CountsFor.l0 k l0 0) = some (r1,r2):=h;clear h
 have H':=Aside0.mk H;clear H
 go_enter Try.func16,Try.ntmps16
 go_wp2
 go_loopg [4] k (fun kq v4 w' => ∃ (x4_1 : Int),v4 = .int .i64 x4_1 ∧ Aside0 (spec_CountsFor.l0 kq l0 x4_1 = some (r1,r2)) ∧ Aside0 (kq ≤ k) ∧ Aside0 (Below w.heap.size w w'))
 case atStart => exact ⟨(0),(by first|rfl|(simp;done)|(simp [*];done)),H',⟨Nat.le_refl _⟩,⟨belU HB.out⟩⟩
 case round =>
  clear H'
  try clear c1
  obtain ⟨x4_1,rfl,HA,HK1,HB⟩:=hrel
  cases gk with
  | zero => exact absurd HA.out (by simp [spec_CountsFor.l0])
  | succ k1 =>
   have H:=HA.out;clear HA
   simp only [spec_CountsFor.l0] at H
   by_cases c2 : x4_1 < (l0.length : Int)
   ·
    rw [if_pos c2] at H
    have c2b0 : decide (x4_1 < (l0.length : Int)) = true:=decide_eq_true c2;clear c2
    by_cases c3 : 0 ≤ x4_1
    ·
     rw [if_pos c3] at H
     have c3b0 : decide (0 ≤ x4_1) = true:=decide_eq_true c3;clear c3
     replace H:=Option.bind_eq_some_iff.mp H
     obtain ⟨t225,A40,H⟩:=H
     replace H : (if t225 = true then (spec_CountsFor.l0 k1 l0 (wrap64 (x4_1 + 1))) else (some ((([] : List Int)),false))) = some (r1,r2):=H
     have A4:=Aside0.mk A40;clear A40
     by_cases c5 : t225 = true
     ·
      subst c5
      have H1 : (spec_CountsFor.l0 k1 l0 (wrap64 (x4_1 + 1))) = some (r1,r2):=by rw [if_pos rfl] at H;exact H
      clear H;have H:=H1;clear H1
      have H':=Aside0.mk H;clear H
      have p224 : 0 ≤ (x4_1 : Int):=of_decide_eq_true (by first|(with_reducible assumption)|assumption)
      have q224 : x4_1 < (l0.length : Int):=of_decide_eq_true (by first|(with_reducible assumption)|assumption)
      obtain ⟨ad224,e224,hx224_0,hx224_1,hx224_2⟩:=at_T29 HR0.out x4_1 p224 q224
      cases e224
      replace hx224_0:=(HB.out.cell (World.block_lt_of_cell? w _ hx224_0)).trans hx224_0
      replace hx224_1:=(HB.out.cell (World.block_lt_of_cell? w _ hx224_1)).trans hx224_1
      replace hx224_2:=(HB.out.cell (World.block_lt_of_cell? w _ hx224_2)).trans hx224_2
      replace p224:=eq_true p224
      replace q224:=eq_true q224
      go_wp2_with (first|((with_reducible refine gate_callee (f:=34) rfl ?_);refine goesL_ (some 20) rfl rfl Try.func34 (by kernel_rfl) rfl #[.agg #[.int .i64 ((rd_T29 l0 x4_1).f0),.int .i64 ((rd_T29 l0 x4_1).f1),.int .i64 ((rd_T29 l0 x4_1).f2)]] rfl (by (try simp only [List.map_toArray,List.map_cons,List.map_nil]);first|done|rfl|(simp only [List.length_drop,List.length_take];rfl)) ?_;(with_reducible refine (spec_WeighOk.calls ((rd_T29 l0 x4_1).f0) ((rd_T29 l0 x4_1).f1) ((rd_T29 l0 x4_1).f2) true _ A4.out).mono ?_);rintro e w6 ⟨rfl,hb⟩;refine ⟨_,rfl,?_⟩;have n0_:=Aside0.mk (below_step (belU HB.out) hb);clear HB;have HB:=n0_;clear n0_;(try clear hb);(try clear hb2);(try clear hk);(try clear hi)))
      go_roundg k1
      case measure => have:=HK1.out;omega
      case rel => exact ⟨(wrap64 (x4_1 + 1)),(by first|rfl|(simp;done)|(simp [*];done)),H',⟨by have:=HK1.out;omega⟩,⟨belU HB.out⟩⟩
     ·
      replace c5:=Bool.eq_false_iff.mpr c5;subst c5
      have H1 : (some ((([] : List Int)),false)) = some (r1,r2):=by rw [if_neg (show ¬ (false = true) by decide)] at H;exact H
      clear H;have H:=H1;clear H1
      obtain ⟨y226,hy226⟩ : ∃ y_ : List Int,y_ = (([] : List Int)):=⟨_,rfl⟩
      replace H : (some (y226,false)) = some (r1,r2):=by first|(rw [hy226];with_reducible exact H)|(have H2_:=(Option.bind_some _ _).symm.trans H;rw [hy226];with_reducible exact H2_)|(have H2_:=(Option.bind_some _ _).symm.trans H;with_reducible exact H2_)|with_reducible exact H|(rw [hy226];exact H)|exact H
      have Ny226:=Aside0.mk hy226;clear hy226
      simp only [Option.some.injEq,Prod.mk.injEq] at H
      obtain ⟨rfl,rfl⟩:=H
      have p224 : 0 ≤ (x4_1 : Int):=of_decide_eq_true (by first|(with_reducible assumption)|assumption)
      have q224 : x4_1 < (l0.length : Int):=of_decide_eq_true (by first|(with_reducible assumption)|assumption)
      obtain ⟨ad224,e224,hx224_0,hx224_1,hx224_2⟩:=at_T29 HR0.out x4_1 p224 q224
      cases e224
      replace hx224_0:=(HB.out.cell (World.block_lt_of_cell? w _ hx224_0)).trans hx224_0
      replace hx224_1:=(HB.out.cell (World.block_lt_of_cell? w _ hx224_1)).trans hx224_1
      replace hx224_2:=(HB.out.cell (World.block_lt_of_cell? w _ hx224_2)).trans hx224_2
      replace p224:=eq_true p224
      replace q224:=eq_true q224
      go_wp2_with (first|((with_reducible refine gate_callee (f:=34) rfl ?_);refine goesL_ (some 20) rfl rfl Try.func34 (by kernel_rfl) rfl #[.agg #[.int .i64 ((rd_T29 l0 x4_1).f0),.int .i64 ((rd_T29 l0 x4_1).f1),.int .i64 ((rd_T29 l0 x4_1).f2)]] rfl (by (try simp only [List.map_toArray,List.map_cons,List.map_nil]);first|done|rfl|(simp only [List.length_drop,List.length_take];rfl)) ?_;(with_reducible refine (spec_WeighOk.calls ((rd_T29 l0 x4_1).f0) ((rd_T29 l0 x4_1).f1) ((rd_T29 l0 x4_1).f2) false _ A4.out).mono ?_);rintro e w7 ⟨rfl,hb⟩;refine ⟨_,rfl,?_⟩;have n0_:=Aside0.mk (below_step (belU HB.out) hb);clear HB;have HB:=n0_;clear n0_;(try clear hb);(try clear hb2);(try clear hk);(try clear hi))|((with_reducible refine gate_dst (N:=22) rfl ?_);refine Kd.R_lit (Kd.int .i64) _ 3 ?hg (N:=22) ?hd (xs:=([] : List Int)) (inner:=[]) (ok:=fun _ => True) (okp:=fun _ => True) ?hr ?hp (fun _ hk => hk) trivial (Below.refl _ _) (Nat.le_refl _) (by simp) ?_;(case hd => rfl);(case hg => rfl);(case hr => first|(go_simp;done)|(go_simp;rfl));(case hp => exact (Reps.none _ _));intro v227 w8 ho9 hb hg_ hnew_;clear hg_ hnew_;(first|rw [← Ny226.out] at ho9|(simp only [Int.reduceToNat] at ho9;rw [← Ny226.out] at ho9));have n0_:=Aside0.mk (Kd.R_lower ho9 (below_size (belU HB.out)));have n1_:=Aside0.mk (below_step (belU HB.out) hb);clear HB;have HO228:=n0_;have HB:=n1_;clear n0_ n1_ hb ho9))
      go_ret2
      exact ⟨_,by first|rfl|(simp [errW_none,errW_some] <;> rfl)|(simp [*,errW_none,errW_some] <;> rfl),rU HO228.out,belU HB.out⟩
    ·
     rw [if_neg c3] at H
     exact absurd H (by simp)
   ·
    rw [if_neg c2] at H
    have c2b0 : decide (x4_1 < (l0.length : Int)) = false:=decide_eq_false c2;clear c2
    by_cases c10 : (l0.length : Int) > 6
    ·
     rw [if_pos c10] at H
     have c10b0 : decide (6 < (l0.length : Int)) = true:=decide_eq_true c10
     have c10b1 : decide (6 < l0.length) = true:=decide_eq_true (by omega);clear c10
     obtain ⟨y229,hy229⟩ : ∃ y_ : List Int,y_ = (([] : List Int)):=⟨_,rfl⟩
     replace H : (some (y229,false)) = some (r1,r2):=by first|(rw [hy229];with_reducible exact H)|(have H2_:=(Option.bind_some _ _).symm.trans H;rw [hy229];with_reducible exact H2_)|(have H2_:=(Option.bind_some _ _).symm.trans H;with_reducible exact H2_)|with_reducible exact H|(rw [hy229];exact H)|exact H
     have Ny229:=Aside0.mk hy229;clear hy229
     simp only [Option.some.injEq,Prod.mk.injEq] at H
     obtain ⟨rfl,rfl⟩:=H
     go_wp2_with (first|((with_reducible refine gate_dst (N:=26) rfl ?_);refine Kd.R_lit (Kd.int .i64) _ 3 ?hg (N:=26) ?hd (xs:=([] : List Int)) (inner:=[]) (ok:=fun _ => True) (okp:=fun _ => True) ?hr ?hp (fun _ hk => hk) trivial (Below.refl _ _) (Nat.le_refl _) (by simp) ?_;(case hd => rfl);(case hg => rfl);(case hr => first|(go_simp;done)|(go_simp;rfl));(case hp => exact (Reps.none _ _));intro v230 w11 ho12 hb hg_ hnew_;clear hg_ hnew_;(first|rw [← Ny229.out] at ho12|(simp only [Int.reduceToNat] at ho12;rw [← Ny229.out] at ho12));have n0_:=Aside0.mk (Kd.R_lower ho12 (below_size (belU HB.out)));have n1_:=Aside0.mk (below_step (belU HB.out) hb);clear HB;have HO231:=n0_;have HB:=n1_;clear n0_ n1_ hb ho12))
     go_ret2
     exact ⟨_,by first|rfl|(simp [errW_none,errW_some] <;> rfl)|(simp [*,errW_none,errW_some] <;> rfl),rU HO231.out,belU HB.out⟩
    ·
     rw [if_neg c10] at H
     have c10b0 : decide (6 < (l0.length : Int)) = false:=decide_eq_false c10
     have c10b1 : decide (6 < l0.length) = false:=decide_eq_false (by omega);clear c10
     by_cases c13 : 4 ≤ 35184372088832
     ·
      rw [if_pos c13] at H
      have c13b0:=eq_true c13
      have c13b1 : decide (4 ≤ 35184372088832) = true:=decide_eq_true c13;clear c13
      obtain ⟨y232,hy232⟩ : ∃ y_ : List Int,y_ = (List.replicate 4 0):=⟨_,rfl⟩
      replace H : ((spec_CornersOf.f k1 l0).bind fun t235 => (spec_CountsFor.l1 k1 l0 y232 t235 0)) = some (r1,r2):=by first|(rw [hy232];with_reducible exact H)|(have H2_:=(Option.bind_some _ _).symm.trans H;rw [hy232];with_reducible exact H2_)|(have H2_:=(Option.bind_some _ _).symm.trans H;with_reducible exact H2_)|with_reducible exact H|(rw [hy232];exact H)|exact H
      have Ny232:=Aside0.mk hy232;clear hy232
      replace H:=Option.bind_eq_some_iff.mp H
      obtain ⟨t235,A140,H⟩:=H
      replace H : (spec_CountsFor.l1 k1 l0 y232 t235 0) = some (r1,r2):=H
      have A14:=Aside0.mk A140;clear A140
      have H':=Aside0.mk H;clear H
      go_wp2_with (first|((with_reducible refine gate_dst (N:=27) rfl ?_);refine Kd.R_make (Kd.int .i64) _ 3 rfl (N:=27) rfl 35 _ _ rfl 4 rfl rfl Try.underlying35 (.int .i64 0) 8 info3 rfl (by decide) (by omega) 0 (ok:=fun _ => True) (okp:=fun _ => True) rfl (fun _ hk => hk) trivial (by omega) (by omega) (Below.refl _ _) (Nat.le_refl _) ?_;intro v233 w15 ho16 hb hg_ hnew_;clear hg_ hnew_;(first|rw [← Ny232.out] at ho16|(simp only [Int.reduceToNat] at ho16;rw [← Ny232.out] at ho16));have n0_:=Aside0.mk (Kd.R_lower ho16 (below_size (belU HB.out)));have n1_:=Aside0.mk (below_step (belU HB.out) hb);clear HB;have HO234:=n0_;have HB:=n1_;clear n0_ n1_ hb ho16)|((with_reducible refine gate_callee (f:=25) rfl ?_);refine goesL_ (some 29) rfl rfl Try.func25 (by kernel_rfl) rfl #[.slice A0 l0.length c0] rfl (by (try simp only [List.map_toArray,List.map_cons,List.map_nil]);first|done|rfl|(simp only [List.length_drop,List.length_take];rfl)) ?_;(with_reducible refine (spec_CornersOf.calls k1 _ _ l0 t235 _ ?side1 ?side2 A14.out).mono ?_);(case side1 => exact cU (Kd.C_below HR0.out HB.out));(case side2 => exact HC0.out);rintro e w17 ⟨v236,rfl,ho0,hb⟩;refine ⟨_,rfl,?_⟩;have n0_:=Aside0.mk (Kd.R_below (rU HO234.out) hb);have n1_:=Aside0.mk (Kd.N_lower (Kd.N_mono (ok':=fun k_ => some k_ ≠ (v233 : Value).ownBlock) ho0 (fun k_ hk_ => (Kd.fresh' (Kd.R_lt (rU HO234.out)) k_ hk_))) (below_size (belU HB.out)));have n2_:=Aside0.mk (below_step (belU HB.out) hb);clear HO234 HB;have HO234:=n0_;have HO237:=n1_;have HB:=n2_;clear n0_ n1_ n2_;(try clear hb);(try clear hb2);(try clear hk);(try clear hi);(try clear ho0)))
      go_loopg [7] k1 (fun kq v7 w' => ∃ (x5_2 : List Int) (x7_2 : Int),v7 = .int .i64 x7_2 ∧ Aside0 (spec_CountsFor.l1 kq l0 x5_2 t235 x7_2 = some (r1,r2)) ∧ Aside0 (kq ≤ k1) ∧ Aside0 (Kd.R (Kd.int .i64) 3 w' w.heap.size (fun _ => True) v233 x5_2) ∧ Aside0 (Kd.N (Kd.slice 3 (Kd.int .i64)) 35 w' w.heap.size (fun k_ => some k_ ≠ (v233 : Value).ownBlock) v236 t235) ∧ Aside0 (Below w.heap.size w w'))
      case atStart => exact ⟨(y232),(0),(by first|rfl|(simp;done)|(simp [*];done)),H',⟨Nat.le_refl _⟩,⟨rU HO234.out⟩,⟨by (with_reducible repeat (first|apply Kd.N_alloc|apply Kd.N_drewN|apply Kd.N_drew));exact HO237.out⟩,⟨belU HB.out⟩⟩
      case round =>
       clear H'
       try clear c1
       try clear c2
       try clear c2b0
       try clear p2
       try clear q2
       try clear hx2
       try clear c3
       try clear c3b0
       try clear c5
       try clear p6
       try clear c10
       try clear c10b0
       try clear c10b1
       try clear c13
       try clear c13b0
       try clear c13b1
       try clear c16
       try clear hx224_0
       try clear hx224_1
       try clear hx224_2
       try clear p224
       try clear q224
       obtain ⟨x5_2,x7_2,rfl,HA,HK2,HO_5,HO_6,HB⟩:=hrel
       cases gk with
       | zero => exact absurd HA.out (by simp [spec_CountsFor.l1])
       | succ k2 =>
        have H:=HA.out;clear HA
        simp only [spec_CountsFor.l1] at H
        by_cases c18 : x7_2 < (t235.length : Int)
        ·
         rw [if_pos c18] at H
         have c18b0 : decide (x7_2 < (t235.length : Int)) = true:=decide_eq_true c18;clear c18
         have H':=Aside0.mk H;clear H
         obtain ⟨Ao19,co19,eo19⟩:=Kd.N_slice HO_6.out;subst eo19
         go_wp2
         go_loopg [8] k2 (fun kq v8 w' => ∃ (x5_3 : List Int) (x8_3 : Int),v8 = .int .i64 x8_3 ∧ Aside0 (spec_CountsFor.l2 kq l0 x5_3 t235 x7_2 x8_3 = some (r1,r2)) ∧ Aside0 (kq ≤ k2) ∧ Aside0 (Kd.R (Kd.int .i64) 3 w' w.heap.size (fun _ => True) v233 x5_3) ∧ Aside0 (Kd.N (Kd.slice 3 (Kd.int .i64)) 35 w' w.heap.size (fun k_ => some k_ ≠ (v233 : Value).ownBlock) (.slice Ao19 t235.length co19) t235) ∧ Aside0 (Below w.heap.size w w'))
         case atStart => exact ⟨(x5_2),(0),(by first|rfl|(simp;done)|(simp [*];done)),H',⟨Nat.le_refl _⟩,⟨rU HO_5.out⟩,⟨by (with_reducible repeat (first|apply Kd.N_alloc|apply Kd.N_drewN|apply Kd.N_drew));exact HO_6.out⟩,⟨belU HB.out⟩⟩
         case round =>
          clear H'
          try clear c1
          try clear c2
          try clear c2b0
          try clear p2
          try clear q2
          try clear hx2
          try clear c3
          try clear c3b0
          try clear c5
          try clear p6
          try clear c10
          try clear c10b0
          try clear c10b1
          try clear c13
          try clear c13b0
          try clear c13b1
          try clear c16
          try clear c18
          try clear c18b0
          try clear hx224_0
          try clear hx224_1
          try clear hx224_2
          try clear p2
          try clear p224
          try clear p6
          try clear q2
          try clear q224
          obtain ⟨x5_3,x8_3,rfl,HA,HK3,HO_5,HO_6,HB⟩:=hrel
          cases gk with
          | zero => exact absurd HA.out (by simp [spec_CountsFor.l2])
          | succ k3 =>
           have H:=HA.out;clear HA
           simp only [spec_CountsFor.l2] at H
           by_cases c20 : x8_3 < 4
           ·
            rw [if_pos c20] at H
            have c20b0 : decide (x8_3 < 4) = true:=decide_eq_true c20;clear c20
            by_cases c21 : 0 ≤ x8_3
            ·
             rw [if_pos c21] at H
             have c21b0 : decide (0 ≤ x8_3) = true:=decide_eq_true c21;clear c21
             by_cases c22 : x8_3 < (x5_3.length : Int)
             ·
              rw [if_pos c22] at H
              have c22b0 : decide (x8_3 < (x5_3.length : Int)) = true:=decide_eq_true c22;clear c22
              by_cases c23 : 0 ≤ x7_2
              ·
               rw [if_pos c23] at H
               have c23b0 : decide (0 ≤ x7_2) = true:=decide_eq_true c23;clear c23
               by_cases c24 : x7_2 < (t235.length : Int)
               ·
                rw [if_pos c24] at H
                have c24b0 : decide (x7_2 < (t235.length : Int)) = true:=decide_eq_true c24;clear c24
                by_cases c25 : x8_3 < ((rd_L2 t235 x7_2).length : Int)
                ·
                 rw [if_pos c25] at H
                 have c25b0 : decide (x8_3 < ((rd_L2 t235 x7_2).length : Int)) = true:=decide_eq_true c25;clear c25
                 obtain ⟨y241,hy241⟩ : ∃ y_ : List Int,y_ = (x5_3.set (x8_3 : Int).toNat (wrap64 ((rd x5_3 x8_3) + (rd (rd_L2 t235 x7_2) x8_3)))):=⟨_,rfl⟩
                 replace H : (spec_CountsFor.l2 k3 l0 y241 t235 x7_2 (wrap64 (x8_3 + 1))) = some (r1,r2):=by first|(rw [hy241];with_reducible exact H)|(have H2_:=(Option.bind_some _ _).symm.trans H;rw [hy241];with_reducible exact H2_)|(have H2_:=(Option.bind_some _ _).symm.trans H;with_reducible exact H2_)|with_reducible exact H|(rw [hy241];exact H)|exact H
                 have Ny241:=Aside0.mk hy241;clear hy241
                 have H':=Aside0.mk H;clear H
                 try go_wp2
                 have n0_:=Aside0.mk (Kd.R_drew HO_5.out);have n1_:=Aside0.mk (Kd.N_drew HO_6.out);have n2_:=Aside0.mk (below_drew1 HB.out);clear HO_5 HO_6 HB;have HO_5:=n0_;have HO_6:=n1_;have HB:=n2_;clear n0_ n1_ n2_
                 obtain ⟨Ao28,co28,eo28⟩:=Kd.R_slice HO_5.out
                 (first|subst eo28|(injection eo28 with f1_ f2_ f3_;have f4_:=f1_.symm;have f5_:=f3_.symm;clear f1_ f2_ f3_;subst f4_;subst f5_))
                 have p238 : 0 ≤ (x8_3 : Int):=of_decide_eq_true (by first|(with_reducible assumption)|assumption)
                 have q238 : x8_3 < (x5_3.length : Int):=of_decide_eq_true (by first|(with_reducible assumption)|assumption)
                 obtain ⟨ad238,e238,hx238_0⟩:=Kd.at_int (Kd.R_reads' HO_5.out).2.2 x8_3 p238 q238
                 cases e238
                 replace p238:=eq_true p238
                 replace q238:=eq_true q238
                 have p239 : 0 ≤ (x7_2 : Int):=of_decide_eq_true (by first|(with_reducible assumption)|assumption)
                 have q239 : x7_2 < (t235.length : Int):=of_decide_eq_true (by first|(with_reducible assumption)|assumption)
                 obtain ⟨ad239,A239_0,c239_0,e239,hx239_0,hl239_0,hi239_0⟩:=at_L2 (Kd.N_reads' HO_6.out).2.2 x7_2 p239 q239
                 cases e239
                 obtain ⟨ce239,hce239,hMe239,hcc239⟩:=Kd.N_get HO_6.out [] x7_2 p239 (by first|exact q239|exact of_decide_eq_true (by first|(with_reducible assumption)|assumption)|(have e_:=(Kd.N_reads' HO_6.out).1;omega))
                 obtain ⟨ua239_0,uc239_0,rfl,ul239_0,ge239_0⟩:=Kd.FK_slice_open hMe239
                 have hv239_0:=hcc239 0 _ rfl
                 rw [Nat.add_zero,show ((Kd.slice 3 (Kd.int .i64))).sz = 1 from rfl,Nat.mul_one] at hv239_0
                 replace hv239_0:=Option.some.inj (hv239_0.symm.trans hx239_0)
                 injection hv239_0 with hva_ hvn_ hvc_
                 rw [hva_] at ge239_0
                 rw [hvc_] at ul239_0;have HL239_0:=Aside0.mk (show Kd.V (Kd.int .i64) 3 _ w.heap.size _ _ (rd_L2 t235 x7_2) from Kd.V_mk ul239_0 ge239_0);clear hva_ hvn_ hvc_ ge239_0 ul239_0 hcc239 hce239
                 have HR239_0:=Aside0.mk hi239_0
                 have HC239_0:=Aside0.mk hl239_0;clear hi239_0 hl239_0
                 replace p239:=eq_true p239
                 replace q239:=eq_true q239
                 have p240 : 0 ≤ (x8_3 : Int):=of_decide_eq_true (by first|(with_reducible assumption)|assumption)
                 have q240 : x8_3 < ((rd_L2 t235 x7_2).length : Int):=of_decide_eq_true (by first|(with_reducible assumption)|assumption)
                 obtain ⟨ad240,e240,hx240_0⟩:=Kd.at_int (by repeat (first|(with_reducible exact HR239_0.out)|(with_reducible refine Kd.C_alloc ?_ _)|(with_reducible refine Kd.C_drewN ?_ _)|(with_reducible refine Kd.C_drew ?_)|exact HR239_0.out)) x8_3 p240 q240
                 cases e240
                 replace p240:=eq_true p240
                 replace q240:=eq_true q240
                 have p26 : 0 ≤ (x8_3 : Int):=of_decide_eq_true (by first|(with_reducible assumption)|assumption)
                 have q26 : (x8_3 : Int) < ((x5_3.length : Int) : Int):=of_decide_eq_true (by first|(with_reducible assumption)|assumption)
                 obtain ⟨go26,co26,eo26,gb26,gl26,cl26,HG26⟩:=Kd.R_form HO_5.out (by omega)
                 (first|cases eo26|(injection eo26 with ea_ en_ ec_;(first|subst ea_|(injection ea_ with ea_;subst ea_));subst ec_;clear en_))
                 have GB26:=Aside0.mk gb26
                 have GG26:=Aside0.mk HG26;clear gb26 gl26 HG26
                 (first|simp only [add_plain] at hx238_0|skip)
                 obtain ⟨hx26_0,hf26_0⟩:=Kd.R_celln 0 HO_5.out (x8_3 : Int) p26 q26
                 replace p26:=eq_true p26
                 replace q26:=eq_true q26
                 have HP29:=Kd.R_putn HO_5.out (x8_3 : Int) (wrap64 ((rd x5_3 x8_3) + (rd (rd_L2 t235 x7_2) x8_3)))
                 rw [← Ny241.out] at HP29
                 have HQ29:=Aside0.mk HP29;clear HP29
                 refine start_ (n:=16) (S:=fun w' => w'.cell? ⟨go26,(x8_3).toNat,none⟩ = some (.int .i64 (rd x5_3 x8_3)) ∧ w'.cell? (ad239.add (x7_2).toNat) = some (.slice (some ad240) (rd_L2 t235 x7_2).length c239_0) ∧ w'.cell? (ad240.add (x8_3).toNat) = some (.int .i64 (rd (rd_L2 t235 x7_2) x8_3))) (ds:=[15]) #[false,false,false,false,false,false,false,false,false,false,false,false,false,false,false,false] (by kernel_rfl) rfl rfl ⟨hx238_0,hx239_0,hx240_0⟩ (fun hHeld => ?_);refine with_tabW spec_CountsFor.tab16 spec_CountsFor.bits16 (fun HT_ HW_ => ?_)
                 generalize wr.drew = w27 at HO_5 HO_6 HB GG26 HL239_0 HQ29 HR239_0 hf26_0 hx238_0 hx239_0 hx240_0 hx26_0 hHeld ⊢
                 refine pure_ (i:=0) (N:=some 40) (v:=?_) (a':=?_) #[true,false,false,false,false,false,false,false,false,false,false,false,false,false,false,false] rfl rfl (any_of HT_.out (by kernel_rfl)) (fun _ _ _ h => h) (Or.inl ⟨by rfl,?_⟩) ?_ ?_;rotate_left
                 ·
                  intro w'
                  go_simp
                  with_reducible rfl
                 rotate_left
                 ·
                  simp only [Act.put,List.setIfInBounds_toArray,List.set_cons_zero,List.set_cons_succ,i64_w,i32_w]
                  rfl
                 refine pure_ (i:=1) (N:=some 41) (v:=?_) (a':=?_) #[true,true,false,false,false,false,false,false,false,false,false,false,false,false,false,false] rfl rfl (any_of HT_.out (by kernel_rfl)) (fun _ _ _ h => h) (Or.inl ⟨by rfl,?_⟩) ?_ ?_;rotate_left
                 ·
                  intro w'
                  go_simp
                  with_reducible rfl
                 rotate_left
                 ·
                  simp only [Act.put,List.setIfInBounds_toArray,List.set_cons_zero,List.set_cons_succ,i64_w,i32_w]
                  rfl
                 refine pure_ (i:=2) (N:=some 42) (v:=?_) (a':=?_) #[true,true,true,false,false,false,false,false,false,false,false,false,false,false,false,false] rfl rfl (any_of HT_.out (by kernel_rfl)) (fun _ _ _ h => h) (Or.inl ⟨by rfl,?_⟩) ?_ ?_;rotate_left
                 ·
                  intro w'
                  go_simp
                  with_reducible rfl
                 rotate_left
                 ·
                  simp only [Act.put,List.setIfInBounds_toArray,List.set_cons_zero,List.set_cons_succ,i64_w,i32_w]
                  rfl
                 refine pure_ (i:=3) (N:=some 43) (v:=?_) (a':=?_) #[true,true,true,true,false,false,false,false,false,false,false,false,false,false,false,false] rfl rfl (any_of HT_.out (by kernel_rfl)) (fun _ _ _ h => h) (Or.inl ⟨by rfl,?_⟩) ?_ ?_;rotate_left
                 ·
                  intro w'
                  go_simp
                  with_reducible rfl
                 rotate_left
                 ·
                  simp only [Act.put,List.setIfInBounds_toArray,List.set_cons_zero,List.set_cons_succ,i64_w,i32_w]
                  rfl
                 refine pure_ (i:=4) (N:=some 44) (v:=?_) (a':=?_) #[true,true,true,true,true,false,false,false,false,false,false,false,false,false,false,false] rfl rfl (any_of HT_.out (by kernel_rfl)) (fun _ _ _ h => h) (Or.inl ⟨by rfl,?_⟩) ?_ ?_;rotate_left
                 ·
                  intro w'
                  go_simp
                  with_reducible rfl
                 rotate_left
                 ·
                  simp only [Act.put,List.setIfInBounds_toArray,List.set_cons_zero,List.set_cons_succ,i64_w,i32_w]
                  rfl
                 refine pure_ (i:=6) (N:=some 46) (v:=?_) (a':=?_) #[true,true,true,true,true,false,true,false,false,false,false,false,false,false,false,false] rfl rfl (any_of HT_.out (by kernel_rfl)) (fun _ _ _ h => h) (Or.inl ⟨by rfl,?_⟩) ?_ ?_;rotate_left
                 ·
                  intro w'
                  go_simp
                  with_reducible rfl
                 rotate_left
                 ·
                  simp only [Act.put,List.setIfInBounds_toArray,List.set_cons_zero,List.set_cons_succ,i64_w,i32_w]
                  rfl
                 refine pure_ (i:=7) (N:=some 47) (v:=?_) (a':=?_) #[true,true,true,true,true,false,true,true,false,false,false,false,false,false,false,false] rfl rfl (any_of HT_.out (by kernel_rfl)) (fun _ _ _ h => h) (Or.inl ⟨by rfl,?_⟩) ?_ ?_;rotate_left
                 ·
                  intro w'
                  go_simp
                  with_reducible rfl
                 rotate_left
                 ·
                  simp only [Act.put,List.setIfInBounds_toArray,List.set_cons_zero,List.set_cons_succ,i64_w,i32_w]
                  rfl
                 refine pure_ (i:=8) (N:=some 48) (v:=?_) (a':=?_) #[true,true,true,true,true,false,true,true,true,false,false,false,false,false,false,false] rfl rfl (any_of HT_.out (by kernel_rfl)) (fun _ _ _ h => h) (Or.inl ⟨by rfl,?_⟩) ?_ ?_;rotate_left
                 ·
                  intro w'
                  go_simp
                  with_reducible rfl
                 rotate_left
                 ·
                  simp only [Act.put,List.setIfInBounds_toArray,List.set_cons_zero,List.set_cons_succ,i64_w,i32_w]
                  rfl
                 refine pure_ (i:=10) (N:=some 50) (v:=?_) (a':=?_) #[true,true,true,true,true,false,true,true,true,false,true,false,false,false,false,false] rfl rfl (any_of HT_.out (by kernel_rfl)) (fun _ _ _ h => h) (Or.inl ⟨by rfl,?_⟩) ?_ ?_;rotate_left
                 ·
                  intro w'
                  go_simp
                  with_reducible rfl
                 rotate_left
                 ·
                  simp only [Act.put,List.setIfInBounds_toArray,List.set_cons_zero,List.set_cons_succ,i64_w,i32_w]
                  rfl
                 refine take_ (i:=5) (N:=some 45) (v:=?_) (a':=?_) #[true,true,true,true,true,true,true,true,true,false,true,false,false,false,false,false] rfl rfl (take_ofW HT_.out HW_.out (by kernel_rfl)) (fun _ _ _ h => h) (Or.inl ⟨by rfl,?_⟩) hHeld ?_ ?_;rotate_left
                 ·
                  rintro w' ⟨s0,s1,s2⟩
                  go_simp
                  with_reducible rfl
                 rotate_left
                 ·
                  simp only [Act.put,List.setIfInBounds_toArray,List.set_cons_zero,List.set_cons_succ,i64_w,i32_w]
                  rfl
                 refine take_ (i:=9) (N:=some 49) (v:=?_) (a':=?_) #[true,true,true,true,true,true,true,true,true,true,true,false,false,false,false,false] rfl rfl (take_ofW HT_.out HW_.out (by kernel_rfl)) (fun _ _ _ h => h) (Or.inl ⟨by rfl,?_⟩) hHeld ?_ ?_;rotate_left
                 ·
                  rintro w' ⟨s0,s1,s2⟩
                  go_simp
                  with_reducible rfl
                 rotate_left
                 ·
                  simp only [Act.put,List.setIfInBounds_toArray,List.set_cons_zero,List.set_cons_succ,i64_w,i32_w]
                  rfl
                 refine pure_ (i:=11) (N:=some 51) (v:=?_) (a':=?_) #[true,true,true,true,true,true,true,true,true,true,true,true,false,false,false,false] rfl rfl (any_of HT_.out (by kernel_rfl)) (fun _ _ _ h => h) (Or.inl ⟨by rfl,?_⟩) ?_ ?_;rotate_left
                 ·
                  intro w'
                  go_simp
                  with_reducible rfl
                 rotate_left
                 ·
                  simp only [Act.put,List.setIfInBounds_toArray,List.set_cons_zero,List.set_cons_succ,i64_w,i32_w]
                  rfl
                 refine take_ (i:=12) (N:=some 52) (v:=?_) (a':=?_) #[true,true,true,true,true,true,true,true,true,true,true,true,true,false,false,false] rfl rfl (take_ofW HT_.out HW_.out (by kernel_rfl)) (fun _ _ _ h => h) (Or.inl ⟨by rfl,?_⟩) hHeld ?_ ?_;rotate_left
                 ·
                  rintro w' ⟨s0,s1,s2⟩
                  go_simp
                  with_reducible rfl
                 rotate_left
                 ·
                  simp only [Act.put,List.setIfInBounds_toArray,List.set_cons_zero,List.set_cons_succ,i64_w,i32_w]
                  rfl
                 refine pure_ (i:=13) (N:=some 53) (v:=?_) (a':=?_) #[true,true,true,true,true,true,true,true,true,true,true,true,true,true,false,false] rfl rfl (any_of HT_.out (by kernel_rfl)) (fun _ _ _ h => h) (Or.inl ⟨by rfl,?_⟩) ?_ ?_;rotate_left
                 ·
                  intro w'
                  go_simp
                  with_reducible rfl
                 rotate_left
                 ·
                  simp only [Act.put,List.setIfInBounds_toArray,List.set_cons_zero,List.set_cons_succ,i64_w,i32_w]
                  rfl
                 refine pure_ (i:=14) (N:=some 54) (v:=?_) (a':=?_) #[true,true,true,true,true,true,true,true,true,true,true,true,true,true,true,false] rfl rfl (any_of HT_.out (by kernel_rfl)) (fun _ _ _ h => h) (Or.inl ⟨by rfl,?_⟩) ?_ ?_;rotate_left
                 ·
                  intro w'
                  go_simp
                  with_reducible rfl
                 rotate_left
                 ·
                  simp only [Act.put,List.setIfInBounds_toArray,List.set_cons_zero,List.set_cons_succ,i64_w,i32_w]
                  rfl
                 refine last_ (i:=15) (N:=none) #[true,true,true,true,true,true,true,true,true,true,true,true,true,true,true,true] rfl rfl (one_of HT_.out (by kernel_rfl)) (by decide) (fun K hK => ?_)
                 refine skip_ (w1:=?_) (by rfl) rfl ?_ ?_;rotate_left
                 ·
                  go_simp
                  rfl
                 refine hK.out _ _ ?_;clear hK K
                 refine done_ (done_of HT_.out (by kernel_rfl)) ?_
                 try go_wp2
                 go_roundg k3
                 case measure => have:=HK1.out;have:=HK2.out;have:=HK3.out;omega
                 case rel => exact ⟨(y241),(wrap64 (x8_3 + 1)),(by first|rfl|(simp;done)|(simp [*];done)),H',⟨by have:=HK1.out;have:=HK2.out;have:=HK3.out;omega⟩,⟨rU HQ29.out⟩,⟨by (with_reducible repeat (first|apply Kd.N_alloc|apply Kd.N_drewN|apply Kd.N_drew));exact Kd.N_mono (Kd.N_far (p:=⟨go26,(x8_3 : Int).toNat,none⟩) (Kd.N_mono HO_6.out (fun k_ hk => (⟨hk,fun e_ => hk (by rw [e_];rfl)⟩ : _ ∧ k_ ≠ go26))) (fun _ hk => hk.2) (.int .i64 (wrap64 ((rd x5_3 x8_3) + (rd (rd_L2 t235 x7_2) x8_3))))) (fun _ hk => hk.1)⟩,⟨by repeat (first|(with_reducible first|exact HB.out|apply below_alloc|apply pw_below_drewN|apply below_drew1|refine below_set ?_ GB26.out)|exact HB.out)⟩⟩
                ·
                 rw [if_neg c25] at H
                 exact absurd H (by simp)
               ·
                rw [if_neg c24] at H
                exact absurd H (by simp)
              ·
               rw [if_neg c23] at H
               exact absurd H (by simp)
             ·
              rw [if_neg c22] at H
              exact absurd H (by simp)
            ·
             rw [if_neg c21] at H
             exact absurd H (by simp)
           ·
            rw [if_neg c20] at H
            have c20b0 : decide (x8_3 < 4) = false:=decide_eq_false c20;clear c20
            have H':=Aside0.mk H;clear H
            go_wp2
            go_roundg k3
            case measure => have:=HK1.out;have:=HK2.out;have:=HK3.out;omega
            case rel => exact ⟨(x5_3),(wrap64 (x7_2 + 1)),(by first|rfl|(simp;done)|(simp [*];done)),H',⟨by have:=HK1.out;have:=HK2.out;have:=HK3.out;omega⟩,⟨rU HO_5.out⟩,⟨by (with_reducible repeat (first|apply Kd.N_alloc|apply Kd.N_drewN|apply Kd.N_drew));exact HO_6.out⟩,⟨belU HB.out⟩⟩
        ·
         rw [if_neg c18] at H
         have c18b0 : decide (x7_2 < (t235.length : Int)) = false:=decide_eq_false c18;clear c18
         have H':=Aside0.mk H;clear H
         obtain ⟨Ao30,co30,eo30⟩:=Kd.N_slice HO_6.out;subst eo30
         go_wp2
         go_loopg [9] k2 (fun kq v9 w' => ∃ (x9_3 : Int),v9 = .int .i64 x9_3 ∧ Aside0 (spec_CountsFor.l3 kq l0 x5_2 x9_3 = some (r1,r2)) ∧ Aside0 (kq ≤ k2) ∧ Aside0 (Kd.R (Kd.int .i64) 3 w' w.heap.size (fun _ => True) v233 x5_2) ∧ Aside0 (Below w.heap.size w w'))
         case atStart => exact ⟨(0),(by first|rfl|(simp;done)|(simp [*];done)),H',⟨Nat.le_refl _⟩,⟨rU HO_5.out⟩,⟨belU HB.out⟩⟩
         case round =>
          clear H'
          try clear c1
          try clear c2
          try clear c2b0
          try clear p2
          try clear q2
          try clear hx2
          try clear hf2
          try clear c3
          try clear c3b0
          try clear c5
          try clear p6
          try clear c10
          try clear c10b0
          try clear c10b1
          try clear c13
          try clear c13b0
          try clear c13b1
          try clear c16
          try clear c18
          try clear c18b0
          try clear c20
          try clear c20b0
          try clear c21
          try clear c21b0
          try clear c22
          try clear c22b0
          try clear p22
          try clear q22
          try clear hx22
          try clear c23
          try clear c23b0
          try clear p23
          try clear q23
          try clear hx23
          try clear c24
          try clear c24b0
          try clear p24
          try clear q24
          try clear hx24
          try clear c25
          try clear c25b0
          try clear p26
          try clear q26
          try clear hx26
          try clear hf26
          try clear hx224_0
          try clear hx224_1
          try clear hx224_2
          try clear hx238_0
          try clear hx239_0
          try clear hx240_0
          try clear hx26_0
          try clear p2
          try clear p224
          try clear p238
          try clear p239
          try clear p240
          try clear p26
          try clear p6
          try clear q2
          try clear q224
          try clear q238
          try clear q239
          try clear q240
          try clear q26
          obtain ⟨x9_3,rfl,HA,HK3,HO_5,HB⟩:=hrel
          cases gk with
          | zero => exact absurd HA.out (by simp [spec_CountsFor.l3])
          | succ k3 =>
           have H:=HA.out;clear HA
           simp only [spec_CountsFor.l3] at H
           by_cases c31 : x9_3 < (l0.length : Int)
           ·
            rw [if_pos c31] at H
            have c31b0 : decide (x9_3 < (l0.length : Int)) = true:=decide_eq_true c31;clear c31
            by_cases c32 : 0 ≤ x9_3
            ·
             rw [if_pos c32] at H
             have c32b0 : decide (0 ≤ x9_3) = true:=decide_eq_true c32;clear c32
             replace H:=Option.bind_eq_some_iff.mp H
             obtain ⟨t243,A330,H⟩:=H
             replace H : (if t243 = true then (spec_CountsFor.l3 k3 l0 x5_2 (wrap64 (x9_3 + 1))) else (some ((([] : List Int)),false))) = some (r1,r2):=H
             have A33:=Aside0.mk A330;clear A330
             by_cases c34 : t243 = true
             ·
              subst c34
              have H1 : (spec_CountsFor.l3 k3 l0 x5_2 (wrap64 (x9_3 + 1))) = some (r1,r2):=by rw [if_pos rfl] at H;exact H
              clear H;have H:=H1;clear H1
              have H':=Aside0.mk H;clear H
              have p242 : 0 ≤ (x9_3 : Int):=of_decide_eq_true (by first|(with_reducible assumption)|assumption)
              have q242 : x9_3 < (l0.length : Int):=of_decide_eq_true (by first|(with_reducible assumption)|assumption)
              obtain ⟨ad242,e242,hx242_0,hx242_1,hx242_2⟩:=at_T29 HR0.out x9_3 p242 q242
              cases e242
              replace hx242_0:=(HB.out.cell (World.block_lt_of_cell? w _ hx242_0)).trans hx242_0
              replace hx242_1:=(HB.out.cell (World.block_lt_of_cell? w _ hx242_1)).trans hx242_1
              replace hx242_2:=(HB.out.cell (World.block_lt_of_cell? w _ hx242_2)).trans hx242_2
              replace p242:=eq_true p242
              replace q242:=eq_true q242
              obtain ⟨Ao35,co35,eo35⟩:=Kd.R_slice HO_5.out;subst eo35
              go_wp2_with (first|((with_reducible refine gate_callee (f:=44) rfl ?_);refine goesL_ (some 66) rfl rfl Try.func44 (by kernel_rfl) rfl #[.slice Ao35 x5_2.length co35,.agg #[.int .i64 ((rd_T29 l0 x9_3).f0),.int .i64 ((rd_T29 l0 x9_3).f1),.int .i64 ((rd_T29 l0 x9_3).f2)]] rfl (by (try simp only [List.map_toArray,List.map_cons,List.map_nil]);first|done|rfl|(simp only [List.length_drop,List.length_take];rfl)) ?_;(with_reducible refine (spec_WeighSo.calls k3 _ _ x5_2 ((rd_T29 l0 x9_3).f0) ((rd_T29 l0 x9_3).f1) ((rd_T29 l0 x9_3).f2) true _ ?side1 ?side2 A33.out).mono ?_);(case side1 => exact cU (Kd.R_reads' HO_5.out).2.2);(case side2 => exact (Kd.R_reads' HO_5.out).2.1);rintro e w36 ⟨rfl,hb⟩;refine ⟨_,rfl,?_⟩;have n0_:=Aside0.mk (Kd.R_below (rU HO_5.out) hb);have n1_:=Aside0.mk (below_step (belU HB.out) hb);clear HO_5 HB;have HO_5:=n0_;have HB:=n1_;clear n0_ n1_;(try clear hb);(try clear hb2);(try clear hk);(try clear hi)))
              go_roundg k3
              case measure => have:=HK1.out;have:=HK2.out;have:=HK3.out;omega
              case rel => exact ⟨(wrap64 (x9_3 + 1)),(by first|rfl|(simp;done)|(simp [*];done)),H',⟨by have:=HK1.out;have:=HK2.out;have:=HK3.out;omega⟩,⟨rU HO_5.out⟩,⟨belU HB.out⟩⟩
             ·
              replace c34:=Bool.eq_false_iff.mpr c34;subst c34
              have H1 : (some ((([] : List Int)),false)) = some (r1,r2):=by rw [if_neg (show ¬ (false = true) by decide)] at H;exact H
              clear H;have H:=H1;clear H1
              obtain ⟨y244,hy244⟩ : ∃ y_ : List Int,y_ = (([] : List Int)):=⟨_,rfl⟩
              replace H : (some (y244,false)) = some (r1,r2):=by first|(rw [hy244];with_reducible exact H)|(have H2_:=(Option.bind_some _ _).symm.trans H;rw [hy244];with_reducible exact H2_)|(have H2_:=(Option.bind_some _ _).symm.trans H;with_reducible exact H2_)|with_reducible exact H|(rw [hy244];exact H)|exact H
              have Ny244:=Aside0.mk hy244;clear hy244
              simp only [Option.some.injEq,Prod.mk.injEq] at H
              obtain ⟨rfl,rfl⟩:=H
              have p242 : 0 ≤ (x9_3 : Int):=of_decide_eq_true (by first|(with_reducible assumption)|assumption)
              have q242 : x9_3 < (l0.length : Int):=of_decide_eq_true (by first|(with_reducible assumption)|assumption)
              obtain ⟨ad242,e242,hx242_0,hx242_1,hx242_2⟩:=at_T29 HR0.out x9_3 p242 q242
              cases e242
              replace hx242_0:=(HB.out.cell (World.block_lt_of_cell? w _ hx242_0)).trans hx242_0
              replace hx242_1:=(HB.out.cell (World.block_lt_of_cell? w _ hx242_1)).trans hx242_1
              replace hx242_2:=(HB.out.cell (World.block_lt_of_cell? w _ hx242_2)).trans hx242_2
              replace p242:=eq_true p242
              replace q242:=eq_true q242
              obtain ⟨Ao37,co37,eo37⟩:=Kd.R_slice HO_5.out;subst eo37
              go_wp2_with (first|((with_reducible refine gate_callee (f:=44) rfl ?_);refine goesL_ (some 66) rfl rfl Try.func44 (by kernel_rfl) rfl #[.slice Ao37 x5_2.length co37,.agg #[.int .i64 ((rd_T29 l0 x9_3).f0),.int .i64 ((rd_T29 l0 x9_3).f1),.int .i64 ((rd_T29 l0 x9_3).f2)]] rfl (by (try simp only [List.map_toArray,List.map_cons,List.map_nil]);first|done|rfl|(simp only [List.length_drop,List.length_take];rfl)) ?_;(with_reducible refine (spec_WeighSo.calls k3 _ _ x5_2 ((rd_T29 l0 x9_3).f0) ((rd_T29 l0 x9_3).f1) ((rd_T29 l0 x9_3).f2) false _ ?side1 ?side2 A33.out).mono ?_);(case side1 => exact cU (Kd.R_reads' HO_5.out).2.2);(case side2 => exact (Kd.R_reads' HO_5.out).2.1);rintro e w38 ⟨rfl,hb⟩;refine ⟨_,rfl,?_⟩;have n0_:=Aside0.mk (Kd.R_below (rU HO_5.out) hb);have n1_:=Aside0.mk (below_step (belU HB.out) hb);clear HO_5 HB;have HO_5:=n0_;have HB:=n1_;clear n0_ n1_;(try clear hb);(try clear hb2);(try clear hk);(try clear hi))|((with_reducible refine gate_dst (N:=68) rfl ?_);refine Kd.R_lit (Kd.int .i64) _ 3 ?hg (N:=68) ?hd (xs:=([] : List Int)) (inner:=[]) (ok:=fun _ => True) (okp:=fun _ => True) ?hr ?hp (fun _ hk => hk) trivial (Below.refl _ _) (Nat.le_refl _) (by simp) ?_;(case hd => rfl);(case hg => rfl);(case hr => first|(go_simp;done)|(go_simp;rfl));(case hp => exact (Reps.none _ _));intro v245 w39 ho40 hb hg_ hnew_;clear hg_ hnew_;(first|rw [← Ny244.out] at ho40|(simp only [Int.reduceToNat] at ho40;rw [← Ny244.out] at ho40));have n0_:=Aside0.mk (Kd.R_elder' (rU HO_5.out) (Kd.R_base ho40) hb);have n1_:=Aside0.mk (Kd.R_lower (Kd.R_new' ho40 (Kd.R_lt (rU HO_5.out))) (below_size (belU HB.out)));have n2_:=Aside0.mk (below_step (belU HB.out) hb);clear HO_5 HB;have HO_5:=n0_;have HO246:=n1_;have HB:=n2_;clear n0_ n1_ n2_ hb ho40))
              go_ret2
              exact ⟨_,by first|rfl|(simp [errW_none,errW_some] <;> rfl)|(simp [*,errW_none,errW_some] <;> rfl),by (with_reducible repeat (first|apply Kd.R_alloc|apply Kd.R_drewN|apply Kd.R_drew));exact Kd.R_mono HO246.out (fun _ hk => trivial),belU HB.out⟩
            ·
             rw [if_neg c32] at H
             exact absurd H (by simp)
           ·
            rw [if_neg c31] at H
            have c31b0 : decide (x9_3 < (l0.length : Int)) = false:=decide_eq_false c31;clear c31
            simp only [Option.some.injEq,Prod.mk.injEq] at H
            obtain ⟨rfl,rfl⟩:=H
            go_wp2
            go_ret2
            exact ⟨_,by first|rfl|(simp [errW_none,errW_some] <;> rfl)|(simp [*,errW_none,errW_some] <;> rfl),rU HO_5.out,belU HB.out⟩
     ·
      rw [if_neg c13] at H
      exact absurd H (by simp)

end Go.Proofs.Ytmbninbecclbiaa.PA
