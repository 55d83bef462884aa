/- The machine side of functions of this seat, written by the session's program myprint.py: for each Go function a Lean function and the proof that the call answers just it. -/
import Derived.Test.YtmeamfkjfpaciaaPAx0
import Derived.Test.YtmeamfkjfpaciaaUp
namespace Go.Proofs.Ytmeamfkjfpaciaa.PA
open Go.RowKit Go.Proofs.YtmeamfkjfpaciaaW.PrintWords Go.Proofs.YtmeamfkjfpaciaaW.PrintLast Go.Proofs.YtmeamfkjfpaciaaW.PrintMore
attribute [local go_sem] max2_int min2_int max_two min_two max_three min_three max_four min_four   -- for this text's walks alone
set_option linter.unusedVariables false
set_option linter.unusedSimpArgs false

/-! ### spec_l1Made: function 69 -/
mutual
def spec_l1Made.l0 : Nat → Int → Int → List Int → Int → Option (List Int)
 | 0,_,_,_,_ => none
 | k + 1,x0,x1,x5,x6 => if x6 ≤ 5 then (spec_l1Made.l1 k x0 x1 x5 x6 0) else (some x5)
def spec_l1Made.l1 : Nat → Int → Int → List Int → Int → Int → Option (List Int)
 | 0,_,_,_,_,_ => none
 | k + 1,x0,x1,x5,x6,x7 => if x7 ≤ x6 then (if x0 = 0 then (if x7 = x6 then (if x5.length < 17592186044416 then (spec_l1Made.l1 k x0 x1 (x5 ++ [1]) x6 (wrap64 (x7 + 1))) else (none)) else (if x5.length < 17592186044416 then (spec_l1Made.l1 k x0 x1 (x5 ++ [0]) x6 (wrap64 (x7 + 1))) else (none))) else (if x0 = 1 then (if x7 ≥ x1 then (if x5.length < 17592186044416 then (spec_l1Made.l1 k x0 x1 (x5 ++ [1]) x6 (wrap64 (x7 + 1))) else (none)) else (if x5.length < 17592186044416 then (spec_l1Made.l1 k x0 x1 (x5 ++ [0]) x6 (wrap64 (x7 + 1))) else (none))) else (if x0 = 2 then (if x7 = x1 then (if x5.length < 17592186044416 then (spec_l1Made.l1 k x0 x1 (x5 ++ [1]) x6 (wrap64 (x7 + 1))) else (none)) else (if x5.length < 17592186044416 then (spec_l1Made.l1 k x0 x1 (x5 ++ [0]) x6 (wrap64 (x7 + 1))) else (none))) else (if x0 = 3 then (if (wrap64 (2 * x7)) > x6 then (if x5.length < 17592186044416 then (spec_l1Made.l1 k x0 x1 (x5 ++ [1]) x6 (wrap64 (x7 + 1))) else (none)) else (if x5.length < 17592186044416 then (spec_l1Made.l1 k x0 x1 (x5 ++ [0]) x6 (wrap64 (x7 + 1))) else (none))) else (if x0 = 4 then (if (Int.tmod x7 2) = 0 then (if x5.length < 17592186044416 then (spec_l1Made.l1 k x0 x1 (x5 ++ [1]) x6 (wrap64 (x7 + 1))) else (none)) else (if x5.length < 17592186044416 then (spec_l1Made.l1 k x0 x1 (x5 ++ [0]) x6 (wrap64 (x7 + 1))) else (none))) else (if x0 = 5 then (if (wrap64 (x6 - x7)) = x1 then (if x5.length < 17592186044416 then (spec_l1Made.l1 k x0 x1 (x5 ++ [1]) x6 (wrap64 (x7 + 1))) else (none)) else (if x5.length < 17592186044416 then (spec_l1Made.l1 k x0 x1 (x5 ++ [0]) x6 (wrap64 (x7 + 1))) else (none))) else (if x5.length < 17592186044416 then (spec_l1Made.l1 k x0 x1 (x5 ++ [0]) x6 (wrap64 (x7 + 1))) else (none)))))))) else (spec_l1Made.l0 k x0 x1 x5 (wrap64 (x6 + 1)))
end
def spec_l1Made.f (k : Nat) (a0 : Int) (a1 : Int) : Option (List Int):=spec_l1Made.l0 k a0 a1 (([] : List Int)) 0
theorem spec_l1Made.mono_l : ∀ k,(∀ y0 y1 y2 y3,LeO (spec_l1Made.l0 k y0 y1 y2 y3) (spec_l1Made.l0 (k + 1) y0 y1 y2 y3)) ∧ (∀ y0 y1 y2 y3 y4,LeO (spec_l1Made.l1 k y0 y1 y2 y3 y4) (spec_l1Made.l1 (k + 1) y0 y1 y2 y3 y4))
 | 0 => ⟨fun _ _ _ _ r h => by simp [spec_l1Made.l0] at h,fun _ _ _ _ _ r h => by simp [spec_l1Made.l1] at h⟩
 | k + 1 => by
  obtain ⟨ih0,ih1⟩:=spec_l1Made.mono_l k
  refine ⟨?_,?_⟩
  ·
   intro y0 y1 y2 y3
   unfold spec_l1Made.l0
   repeat' first
   | (with_reducible exact ih0 _ _ _ _)
   | (with_reducible exact ih1 _ _ _ _ _)
   | (with_reducible exact LeO.refl _)
   | (with_reducible exact LeO.none _)
   | (with_reducible refine LeO.ite ?_ ?_)
   | (with_reducible refine LeO.bind ?_ (fun _ => ?_))
   | exact ih0 _ _ _ _
   | exact ih1 _ _ _ _ _
   | exact LeO.none _
   | refine LeO.ite ?_ ?_
   | refine LeO.bind ?_ (fun _ => ?_)
  ·
   intro y0 y1 y2 y3 y4
   unfold spec_l1Made.l1
   repeat' first
   | (with_reducible exact ih0 _ _ _ _)
   | (with_reducible exact ih1 _ _ _ _ _)
   | (with_reducible exact LeO.refl _)
   | (with_reducible exact LeO.none _)
   | (with_reducible refine LeO.ite ?_ ?_)
   | (with_reducible refine LeO.bind ?_ (fun _ => ?_))
   | exact ih0 _ _ _ _
   | exact ih1 _ _ _ _ _
   | exact LeO.none _
   | refine LeO.ite ?_ ?_
   | refine LeO.bind ?_ (fun _ => ?_)
theorem spec_l1Made.mono : ∀ a0 a1 k,LeO (spec_l1Made.f k a0 a1) (spec_l1Made.f (k + 1) a0 a1):=by
 intro a0 a1 k
 obtain ⟨ih0,ih1⟩:=spec_l1Made.mono_l k
 unfold spec_l1Made.f
 repeat' first
   | (with_reducible exact ih0 _ _ _ _)
   | (with_reducible exact ih1 _ _ _ _ _)
   | (with_reducible exact LeO.refl _)
   | (with_reducible exact LeO.none _)
   | (with_reducible refine LeO.ite ?_ ?_)
   | (with_reducible refine LeO.bind ?_ (fun _ => ?_))
   | exact ih0 _ _ _ _
   | exact ih1 _ _ _ _ _
   | exact LeO.none _
   | refine LeO.ite ?_ ?_
   | refine LeO.bind ?_ (fun _ => ?_)
set_option maxHeartbeats 8000000 in
set_option maxRecDepth 100000 in
theorem spec_l1Made.calls (k : Nat) (a0 : Int) (a1 : Int) (r : List Int) (w : World) (h : spec_l1Made.f k a0 a1 = some r) :
  Calls Try.prog 69 #[.int .i64 a0,.int .i64 a1] w fun e w' => ∃ v0_ : Value,e = .returned (v0_) ∧ Kd.R (Kd.int .i64) 3 w' w.heap.size (fun _ => True) v0_ r ∧ Below w.heap.size w w':=by
 have HB:=Aside0.mk (Below.refl w.heap.size w)
 have H : (spec_l1Made.l0 k a0 a1 (([] : List Int)) 0) = some r:=h;clear h
 obtain ⟨y104,hy104⟩ : ∃ y_ : List Int,y_ = (([] : List Int)):=⟨_,rfl⟩
 replace H : (spec_l1Made.l0 k a0 a1 y104 0) = some r:=by first|(rw [hy104];with_reducible exact H)|(have H2_:=(Option.bind_some _ _).symm.trans H;rw [hy104];with_reducible exact H2_)|(have H2_:=(Option.bind_some _ _).symm.trans H;with_reducible exact H2_)|with_reducible exact H|(rw [hy104];exact H)|exact H
 have Ny104:=Aside0.mk hy104;clear hy104
 have H':=Aside0.mk H;clear H
 go_enter Try.func69,Try.ntmps69
 go_wp2_with (first|((with_reducible refine gate_dst (N:=9) rfl ?_);refine Kd.R_lit (Kd.int .i64) _ 3 ?hg (N:=9) ?hd (xs:=([] : List Int)) (inner:=[]) (ok:=fun _ => True) (okp:=fun _ => True) ?hr ?hp (fun _ hk => hk) trivial (Below.refl _ _) (Nat.le_refl _) (by simp) ?_;(case hd => rfl);(case hg => rfl);(case hr => first|(go_simp;done)|(go_simp;rfl));(case hp => exact (Reps.none _ _));intro v105 w3 ho4 hb hg_ hnew_;clear hg_ hnew_;(first|rw [← Ny104.out] at ho4|(simp only [Int.reduceToNat] at ho4;rw [← Ny104.out] at ho4));have n0_:=Aside0.mk (Kd.R_lower ho4 (below_size (belU HB.out)));have n1_:=Aside0.mk (below_step (belU HB.out) hb);clear HB;have HO106:=n0_;have HB:=n1_;clear n0_ n1_ hb ho4))
 go_loopg [5,6] k (fun kq v5 v6 w' => ∃ (x5_1 : List Int) (x6_1 : Int),v6 = .int .i64 x6_1 ∧ Aside0 (spec_l1Made.l0 kq a0 a1 x5_1 x6_1 = some r) ∧ Aside0 (kq ≤ k) ∧ Aside0 (Kd.R (Kd.int .i64) 3 w' w.heap.size (fun _ => True) v5 x5_1) ∧ Aside0 (Below w.heap.size w w'))
 case atStart => exact ⟨(y104),(0),(by first|rfl|(simp;done)|(simp [*];done)),H',⟨Nat.le_refl _⟩,⟨rU HO106.out⟩,⟨belU HB.out⟩⟩
 case round =>
  clear H'
  try clear p2
  obtain ⟨x5_1,x6_1,rfl,HA,HK1,HO_5,HB⟩:=hrel
  cases gk with
  | zero => exact absurd HA.out (by simp [spec_l1Made.l0])
  | succ k1 =>
   have H:=HA.out;clear HA
   simp only [spec_l1Made.l0] at H
   by_cases c5 : x6_1 ≤ 5
   ·
    rw [if_pos c5] at H
    have c5b0 : decide (x6_1 ≤ 5) = true:=decide_eq_true c5;clear c5
    have H':=Aside0.mk H;clear H
    go_wp2
    go_loopg [5,7] k1 (fun kq v5 v7 w' => ∃ (x5_2 : List Int) (x7_2 : Int),v7 = .int .i64 x7_2 ∧ Aside0 (spec_l1Made.l1 kq a0 a1 x5_2 x6_1 x7_2 = some r) ∧ Aside0 (kq ≤ k1) ∧ Aside0 (Kd.R (Kd.int .i64) 3 w' w.heap.size (fun _ => True) v5 x5_2) ∧ Aside0 (Below w.heap.size w w'))
    case atStart => exact ⟨(x5_1),(0),(by first|rfl|(simp;done)|(simp [*];done)),H',⟨Nat.le_refl _⟩,⟨rU HO_5.out⟩,⟨belU HB.out⟩⟩
    case round =>
     clear H'
     try clear p2
     try clear c5
     try clear c5b0
     try clear p2
     obtain ⟨x5_2,x7_2,rfl,HA,HK2,HO_5,HB⟩:=hrel
     cases gk with
     | zero => exact absurd HA.out (by simp [spec_l1Made.l1])
     | succ k2 =>
      have H:=HA.out;clear HA
      simp only [spec_l1Made.l1] at H
      by_cases c6 : x7_2 ≤ x6_1
      ·
       rw [if_pos c6] at H
       have c6b0 : decide (x7_2 ≤ x6_1) = true:=decide_eq_true c6;clear c6
       by_cases c7 : a0 = 0
       ·
        rw [if_pos c7] at H
        have c7b0 : (a0 == 0) = true:=beq_iff_eq.mpr c7
        have c7b1 : (a0 != 0) = false:=bne_eq_false_iff_eq.mpr c7;clear c7
        by_cases c8 : x7_2 = x6_1
        ·
         rw [if_pos c8] at H
         have c8b0 : (x7_2 == x6_1) = true:=beq_iff_eq.mpr c8
         have c8b1 : (x7_2 != x6_1) = false:=bne_eq_false_iff_eq.mpr c8;clear c8
         by_cases c9 : x5_2.length < 17592186044416
         ·
          rw [if_pos c9] at H
          have LMc9:=Aside0.mk c9;clear c9
          obtain ⟨y107,hy107⟩ : ∃ y_ : List Int,y_ = (x5_2 ++ [1]):=⟨_,rfl⟩
          replace H : (spec_l1Made.l1 k2 a0 a1 y107 x6_1 (wrap64 (x7_2 + 1))) = some r:=by first|(rw [hy107];with_reducible exact H)|(have H2_:=(Option.bind_some _ _).symm.trans H;rw [hy107];with_reducible exact H2_)|(have H2_:=(Option.bind_some _ _).symm.trans H;with_reducible exact H2_)|with_reducible exact H|(rw [hy107];exact H)|exact H
          have Ny107:=Aside0.mk hy107;clear hy107
          have H':=Aside0.mk H;clear H
          go_wp2_with (first|((with_reducible refine gate_builtin (b:=.append) (xs:=#[.tmp 54,.tmp 55]) rfl ?_);at_builtin;refine Kd.R_append (Kd.int .i64) (w0:=w) w.heap.size rfl (.tmp 54) (.tmp 55) 23 3 (.int .i64 0) 8 rfl Try.underlying23 info3 rfl (by decide) (by omega) u5 x5_2 1 [.int .i64 1] (fun _ => True) (fun _ => False) rfl rfl ?aP (fun _ hk => hk.elim) ?aF ?aO ?aB ?aS ?aL ?_;(case aP => exact rfl);(case aB => exact (belU HB.out));(case aF => exact (fun _ _ => trivial));(case aO => exact (rU HO_5.out));(case aS => exact (below_size (belU HB.out)));(case aL => have:=LMc9.out;omega);intro v108 w10 ho hb hg hat;rw [← Ny107.out] at ho;have n0_:=Aside0.mk (hb);have n1_:=Aside0.mk (ho);clear HB HO_5;have HB:=n0_;have HO109:=n1_;clear n0_ n1_ ho hb hg hat))
          go_roundg k2
          case measure => have:=HK1.out;have:=HK2.out;omega
          case rel => exact ⟨(y107),(wrap64 (x7_2 + 1)),(by first|rfl|(simp;done)|(simp [*];done)),H',⟨by have:=HK1.out;have:=HK2.out;omega⟩,⟨rU HO109.out⟩,⟨belU HB.out⟩⟩
         ·
          rw [if_neg c9] at H
          exact absurd H (by simp)
        ·
         rw [if_neg c8] at H
         have c8b0 : (x7_2 == x6_1) = false:=beq_eq_false_iff_ne.mpr c8
         have c8b1 : (x7_2 != x6_1) = true:=bne_iff_ne.mpr c8
         by_cases c11 : x5_2.length < 17592186044416
         ·
          rw [if_pos c11] at H
          have LMc11:=Aside0.mk c11;clear c11
          obtain ⟨y110,hy110⟩ : ∃ y_ : List Int,y_ = (x5_2 ++ [0]):=⟨_,rfl⟩
          replace H : (spec_l1Made.l1 k2 a0 a1 y110 x6_1 (wrap64 (x7_2 + 1))) = some r:=by first|(rw [hy110];with_reducible exact H)|(have H2_:=(Option.bind_some _ _).symm.trans H;rw [hy110];with_reducible exact H2_)|(have H2_:=(Option.bind_some _ _).symm.trans H;with_reducible exact H2_)|with_reducible exact H|(rw [hy110];exact H)|exact H
          have Ny110:=Aside0.mk hy110;clear hy110
          have H':=Aside0.mk H;clear H
          go_wp2_with (first|((with_reducible refine gate_builtin (b:=.append) (xs:=#[.tmp 57,.tmp 58]) rfl ?_);at_builtin;refine Kd.R_append (Kd.int .i64) (w0:=w) w.heap.size rfl (.tmp 57) (.tmp 58) 23 3 (.int .i64 0) 8 rfl Try.underlying23 info3 rfl (by decide) (by omega) u5 x5_2 0 [.int .i64 0] (fun _ => True) (fun _ => False) rfl rfl ?aP (fun _ hk => hk.elim) ?aF ?aO ?aB ?aS ?aL ?_;(case aP => exact rfl);(case aB => exact (belU HB.out));(case aF => exact (fun _ _ => trivial));(case aO => exact (rU HO_5.out));(case aS => exact (below_size (belU HB.out)));(case aL => have:=LMc11.out;omega);intro v111 w12 ho hb hg hat;rw [← Ny110.out] at ho;have n0_:=Aside0.mk (hb);have n1_:=Aside0.mk (ho);clear HB HO_5;have HB:=n0_;have HO112:=n1_;clear n0_ n1_ ho hb hg hat))
          go_roundg k2
          case measure => have:=HK1.out;have:=HK2.out;omega
          case rel => exact ⟨(y110),(wrap64 (x7_2 + 1)),(by first|rfl|(simp;done)|(simp [*];done)),H',⟨by have:=HK1.out;have:=HK2.out;omega⟩,⟨rU HO112.out⟩,⟨belU HB.out⟩⟩
         ·
          rw [if_neg c11] at H
          exact absurd H (by simp)
       ·
        rw [if_neg c7] at H
        have c7b0 : (a0 == 0) = false:=beq_eq_false_iff_ne.mpr c7
        have c7b1 : (a0 != 0) = true:=bne_iff_ne.mpr c7
        by_cases c13 : a0 = 1
        ·
         rw [if_pos c13] at H
         have c13b0 : (a0 == 1) = true:=beq_iff_eq.mpr c13
         have c13b1 : (a0 != 1) = false:=bne_eq_false_iff_eq.mpr c13;clear c13
         by_cases c14 : x7_2 ≥ a1
         ·
          rw [if_pos c14] at H
          have c14b0 : decide (a1 ≤ x7_2) = true:=decide_eq_true c14;clear c14
          by_cases c15 : x5_2.length < 17592186044416
          ·
           rw [if_pos c15] at H
           have LMc15:=Aside0.mk c15;clear c15
           obtain ⟨y113,hy113⟩ : ∃ y_ : List Int,y_ = (x5_2 ++ [1]):=⟨_,rfl⟩
           replace H : (spec_l1Made.l1 k2 a0 a1 y113 x6_1 (wrap64 (x7_2 + 1))) = some r:=by first|(rw [hy113];with_reducible exact H)|(have H2_:=(Option.bind_some _ _).symm.trans H;rw [hy113];with_reducible exact H2_)|(have H2_:=(Option.bind_some _ _).symm.trans H;with_reducible exact H2_)|with_reducible exact H|(rw [hy113];exact H)|exact H
           have Ny113:=Aside0.mk hy113;clear hy113
           have H':=Aside0.mk H;clear H
           go_wp2_with (first|((with_reducible refine gate_builtin (b:=.append) (xs:=#[.tmp 54,.tmp 55]) rfl ?_);at_builtin;refine Kd.R_append (Kd.int .i64) (w0:=w) w.heap.size rfl (.tmp 54) (.tmp 55) 23 3 (.int .i64 0) 8 rfl Try.underlying23 info3 rfl (by decide) (by omega) u5 x5_2 1 [.int .i64 1] (fun _ => True) (fun _ => False) rfl rfl ?aP (fun _ hk => hk.elim) ?aF ?aO ?aB ?aS ?aL ?_;(case aP => exact rfl);(case aB => exact (belU HB.out));(case aF => exact (fun _ _ => trivial));(case aO => exact (rU HO_5.out));(case aS => exact (below_size (belU HB.out)));(case aL => have:=LMc15.out;omega);intro v114 w16 ho hb hg hat;rw [← Ny113.out] at ho;have n0_:=Aside0.mk (hb);have n1_:=Aside0.mk (ho);clear HB HO_5;have HB:=n0_;have HO115:=n1_;clear n0_ n1_ ho hb hg hat))
           go_roundg k2
           case measure => have:=HK1.out;have:=HK2.out;omega
           case rel => exact ⟨(y113),(wrap64 (x7_2 + 1)),(by first|rfl|(simp;done)|(simp [*];done)),H',⟨by have:=HK1.out;have:=HK2.out;omega⟩,⟨rU HO115.out⟩,⟨belU HB.out⟩⟩
          ·
           rw [if_neg c15] at H
           exact absurd H (by simp)
         ·
          rw [if_neg c14] at H
          have c14b0 : decide (a1 ≤ x7_2) = false:=decide_eq_false c14;clear c14
          by_cases c17 : x5_2.length < 17592186044416
          ·
           rw [if_pos c17] at H
           have LMc17:=Aside0.mk c17;clear c17
           obtain ⟨y116,hy116⟩ : ∃ y_ : List Int,y_ = (x5_2 ++ [0]):=⟨_,rfl⟩
           replace H : (spec_l1Made.l1 k2 a0 a1 y116 x6_1 (wrap64 (x7_2 + 1))) = some r:=by first|(rw [hy116];with_reducible exact H)|(have H2_:=(Option.bind_some _ _).symm.trans H;rw [hy116];with_reducible exact H2_)|(have H2_:=(Option.bind_some _ _).symm.trans H;with_reducible exact H2_)|with_reducible exact H|(rw [hy116];exact H)|exact H
           have Ny116:=Aside0.mk hy116;clear hy116
           have H':=Aside0.mk H;clear H
           go_wp2_with (first|((with_reducible refine gate_builtin (b:=.append) (xs:=#[.tmp 57,.tmp 58]) rfl ?_);at_builtin;refine Kd.R_append (Kd.int .i64) (w0:=w) w.heap.size rfl (.tmp 57) (.tmp 58) 23 3 (.int .i64 0) 8 rfl Try.underlying23 info3 rfl (by decide) (by omega) u5 x5_2 0 [.int .i64 0] (fun _ => True) (fun _ => False) rfl rfl ?aP (fun _ hk => hk.elim) ?aF ?aO ?aB ?aS ?aL ?_;(case aP => exact rfl);(case aB => exact (belU HB.out));(case aF => exact (fun _ _ => trivial));(case aO => exact (rU HO_5.out));(case aS => exact (below_size (belU HB.out)));(case aL => have:=LMc17.out;omega);intro v117 w18 ho hb hg hat;rw [← Ny116.out] at ho;have n0_:=Aside0.mk (hb);have n1_:=Aside0.mk (ho);clear HB HO_5;have HB:=n0_;have HO118:=n1_;clear n0_ n1_ ho hb hg hat))
           go_roundg k2
           case measure => have:=HK1.out;have:=HK2.out;omega
           case rel => exact ⟨(y116),(wrap64 (x7_2 + 1)),(by first|rfl|(simp;done)|(simp [*];done)),H',⟨by have:=HK1.out;have:=HK2.out;omega⟩,⟨rU HO118.out⟩,⟨belU HB.out⟩⟩
          ·
           rw [if_neg c17] at H
           exact absurd H (by simp)
        ·
         rw [if_neg c13] at H
         have c13b0 : (a0 == 1) = false:=beq_eq_false_iff_ne.mpr c13
         have c13b1 : (a0 != 1) = true:=bne_iff_ne.mpr c13
         by_cases c19 : a0 = 2
         ·
          rw [if_pos c19] at H
          have c19b0 : (a0 == 2) = true:=beq_iff_eq.mpr c19
          have c19b1 : (a0 != 2) = false:=bne_eq_false_iff_eq.mpr c19;clear c19
          by_cases c20 : x7_2 = a1
          ·
           rw [if_pos c20] at H
           have c20b0 : (x7_2 == a1) = true:=beq_iff_eq.mpr c20
           have c20b1 : (x7_2 != a1) = false:=bne_eq_false_iff_eq.mpr c20;clear c20
           by_cases c21 : x5_2.length < 17592186044416
           ·
            rw [if_pos c21] at H
            have LMc21:=Aside0.mk c21;clear c21
            obtain ⟨y119,hy119⟩ : ∃ y_ : List Int,y_ = (x5_2 ++ [1]):=⟨_,rfl⟩
            replace H : (spec_l1Made.l1 k2 a0 a1 y119 x6_1 (wrap64 (x7_2 + 1))) = some r:=by first|(rw [hy119];with_reducible exact H)|(have H2_:=(Option.bind_some _ _).symm.trans H;rw [hy119];with_reducible exact H2_)|(have H2_:=(Option.bind_some _ _).symm.trans H;with_reducible exact H2_)|with_reducible exact H|(rw [hy119];exact H)|exact H
            have Ny119:=Aside0.mk hy119;clear hy119
            have H':=Aside0.mk H;clear H
            go_wp2_with (first|((with_reducible refine gate_builtin (b:=.append) (xs:=#[.tmp 54,.tmp 55]) rfl ?_);at_builtin;refine Kd.R_append (Kd.int .i64) (w0:=w) w.heap.size rfl (.tmp 54) (.tmp 55) 23 3 (.int .i64 0) 8 rfl Try.underlying23 info3 rfl (by decide) (by omega) u5 x5_2 1 [.int .i64 1] (fun _ => True) (fun _ => False) rfl rfl ?aP (fun _ hk => hk.elim) ?aF ?aO ?aB ?aS ?aL ?_;(case aP => exact rfl);(case aB => exact (belU HB.out));(case aF => exact (fun _ _ => trivial));(case aO => exact (rU HO_5.out));(case aS => exact (below_size (belU HB.out)));(case aL => have:=LMc21.out;omega);intro v120 w22 ho hb hg hat;rw [← Ny119.out] at ho;have n0_:=Aside0.mk (hb);have n1_:=Aside0.mk (ho);clear HB HO_5;have HB:=n0_;have HO121:=n1_;clear n0_ n1_ ho hb hg hat))
            go_roundg k2
            case measure => have:=HK1.out;have:=HK2.out;omega
            case rel => exact ⟨(y119),(wrap64 (x7_2 + 1)),(by first|rfl|(simp;done)|(simp [*];done)),H',⟨by have:=HK1.out;have:=HK2.out;omega⟩,⟨rU HO121.out⟩,⟨belU HB.out⟩⟩
           ·
            rw [if_neg c21] at H
            exact absurd H (by simp)
          ·
           rw [if_neg c20] at H
           have c20b0 : (x7_2 == a1) = false:=beq_eq_false_iff_ne.mpr c20
           have c20b1 : (x7_2 != a1) = true:=bne_iff_ne.mpr c20
           by_cases c23 : x5_2.length < 17592186044416
           ·
            rw [if_pos c23] at H
            have LMc23:=Aside0.mk c23;clear c23
            obtain ⟨y122,hy122⟩ : ∃ y_ : List Int,y_ = (x5_2 ++ [0]):=⟨_,rfl⟩
            replace H : (spec_l1Made.l1 k2 a0 a1 y122 x6_1 (wrap64 (x7_2 + 1))) = some r:=by first|(rw [hy122];with_reducible exact H)|(have H2_:=(Option.bind_some _ _).symm.trans H;rw [hy122];with_reducible exact H2_)|(have H2_:=(Option.bind_some _ _).symm.trans H;with_reducible exact H2_)|with_reducible exact H|(rw [hy122];exact H)|exact H
            have Ny122:=Aside0.mk hy122;clear hy122
            have H':=Aside0.mk H;clear H
            go_wp2_with (first|((with_reducible refine gate_builtin (b:=.append) (xs:=#[.tmp 57,.tmp 58]) rfl ?_);at_builtin;refine Kd.R_append (Kd.int .i64) (w0:=w) w.heap.size rfl (.tmp 57) (.tmp 58) 23 3 (.int .i64 0) 8 rfl Try.underlying23 info3 rfl (by decide) (by omega) u5 x5_2 0 [.int .i64 0] (fun _ => True) (fun _ => False) rfl rfl ?aP (fun _ hk => hk.elim) ?aF ?aO ?aB ?aS ?aL ?_;(case aP => exact rfl);(case aB => exact (belU HB.out));(case aF => exact (fun _ _ => trivial));(case aO => exact (rU HO_5.out));(case aS => exact (below_size (belU HB.out)));(case aL => have:=LMc23.out;omega);intro v123 w24 ho hb hg hat;rw [← Ny122.out] at ho;have n0_:=Aside0.mk (hb);have n1_:=Aside0.mk (ho);clear HB HO_5;have HB:=n0_;have HO124:=n1_;clear n0_ n1_ ho hb hg hat))
            go_roundg k2
            case measure => have:=HK1.out;have:=HK2.out;omega
            case rel => exact ⟨(y122),(wrap64 (x7_2 + 1)),(by first|rfl|(simp;done)|(simp [*];done)),H',⟨by have:=HK1.out;have:=HK2.out;omega⟩,⟨rU HO124.out⟩,⟨belU HB.out⟩⟩
           ·
            rw [if_neg c23] at H
            exact absurd H (by simp)
         ·
          rw [if_neg c19] at H
          have c19b0 : (a0 == 2) = false:=beq_eq_false_iff_ne.mpr c19
          have c19b1 : (a0 != 2) = true:=bne_iff_ne.mpr c19
          by_cases c25 : a0 = 3
          ·
           rw [if_pos c25] at H
           have c25b0 : (a0 == 3) = true:=beq_iff_eq.mpr c25
           have c25b1 : (a0 != 3) = false:=bne_eq_false_iff_eq.mpr c25;clear c25
           by_cases c26 : (wrap64 (2 * x7_2)) > x6_1
           ·
            rw [if_pos c26] at H
            have c26b0 : decide (x6_1 < (wrap64 (2 * x7_2))) = true:=decide_eq_true c26;clear c26
            by_cases c27 : x5_2.length < 17592186044416
            ·
             rw [if_pos c27] at H
             have LMc27:=Aside0.mk c27;clear c27
             obtain ⟨y125,hy125⟩ : ∃ y_ : List Int,y_ = (x5_2 ++ [1]):=⟨_,rfl⟩
             replace H : (spec_l1Made.l1 k2 a0 a1 y125 x6_1 (wrap64 (x7_2 + 1))) = some r:=by first|(rw [hy125];with_reducible exact H)|(have H2_:=(Option.bind_some _ _).symm.trans H;rw [hy125];with_reducible exact H2_)|(have H2_:=(Option.bind_some _ _).symm.trans H;with_reducible exact H2_)|with_reducible exact H|(rw [hy125];exact H)|exact H
             have Ny125:=Aside0.mk hy125;clear hy125
             have H':=Aside0.mk H;clear H
             go_wp2_with (first|((with_reducible refine gate_builtin (b:=.append) (xs:=#[.tmp 54,.tmp 55]) rfl ?_);at_builtin;refine Kd.R_append (Kd.int .i64) (w0:=w) w.heap.size rfl (.tmp 54) (.tmp 55) 23 3 (.int .i64 0) 8 rfl Try.underlying23 info3 rfl (by decide) (by omega) u5 x5_2 1 [.int .i64 1] (fun _ => True) (fun _ => False) rfl rfl ?aP (fun _ hk => hk.elim) ?aF ?aO ?aB ?aS ?aL ?_;(case aP => exact rfl);(case aB => exact (belU HB.out));(case aF => exact (fun _ _ => trivial));(case aO => exact (rU HO_5.out));(case aS => exact (below_size (belU HB.out)));(case aL => have:=LMc27.out;omega);intro v126 w28 ho hb hg hat;rw [← Ny125.out] at ho;have n0_:=Aside0.mk (hb);have n1_:=Aside0.mk (ho);clear HB HO_5;have HB:=n0_;have HO127:=n1_;clear n0_ n1_ ho hb hg hat))
             go_roundg k2
             case measure => have:=HK1.out;have:=HK2.out;omega
             case rel => exact ⟨(y125),(wrap64 (x7_2 + 1)),(by first|rfl|(simp;done)|(simp [*];done)),H',⟨by have:=HK1.out;have:=HK2.out;omega⟩,⟨rU HO127.out⟩,⟨belU HB.out⟩⟩
            ·
             rw [if_neg c27] at H
             exact absurd H (by simp)
           ·
            rw [if_neg c26] at H
            have c26b0 : decide (x6_1 < (wrap64 (2 * x7_2))) = false:=decide_eq_false c26;clear c26
            by_cases c29 : x5_2.length < 17592186044416
            ·
             rw [if_pos c29] at H
             have LMc29:=Aside0.mk c29;clear c29
             obtain ⟨y128,hy128⟩ : ∃ y_ : List Int,y_ = (x5_2 ++ [0]):=⟨_,rfl⟩
             replace H : (spec_l1Made.l1 k2 a0 a1 y128 x6_1 (wrap64 (x7_2 + 1))) = some r:=by first|(rw [hy128];with_reducible exact H)|(have H2_:=(Option.bind_some _ _).symm.trans H;rw [hy128];with_reducible exact H2_)|(have H2_:=(Option.bind_some _ _).symm.trans H;with_reducible exact H2_)|with_reducible exact H|(rw [hy128];exact H)|exact H
             have Ny128:=Aside0.mk hy128;clear hy128
             have H':=Aside0.mk H;clear H
             go_wp2_with (first|((with_reducible refine gate_builtin (b:=.append) (xs:=#[.tmp 57,.tmp 58]) rfl ?_);at_builtin;refine Kd.R_append (Kd.int .i64) (w0:=w) w.heap.size rfl (.tmp 57) (.tmp 58) 23 3 (.int .i64 0) 8 rfl Try.underlying23 info3 rfl (by decide) (by omega) u5 x5_2 0 [.int .i64 0] (fun _ => True) (fun _ => False) rfl rfl ?aP (fun _ hk => hk.elim) ?aF ?aO ?aB ?aS ?aL ?_;(case aP => exact rfl);(case aB => exact (belU HB.out));(case aF => exact (fun _ _ => trivial));(case aO => exact (rU HO_5.out));(case aS => exact (below_size (belU HB.out)));(case aL => have:=LMc29.out;omega);intro v129 w30 ho hb hg hat;rw [← Ny128.out] at ho;have n0_:=Aside0.mk (hb);have n1_:=Aside0.mk (ho);clear HB HO_5;have HB:=n0_;have HO130:=n1_;clear n0_ n1_ ho hb hg hat))
             go_roundg k2
             case measure => have:=HK1.out;have:=HK2.out;omega
             case rel => exact ⟨(y128),(wrap64 (x7_2 + 1)),(by first|rfl|(simp;done)|(simp [*];done)),H',⟨by have:=HK1.out;have:=HK2.out;omega⟩,⟨rU HO130.out⟩,⟨belU HB.out⟩⟩
            ·
             rw [if_neg c29] at H
             exact absurd H (by simp)
          ·
           rw [if_neg c25] at H
           have c25b0 : (a0 == 3) = false:=beq_eq_false_iff_ne.mpr c25
           have c25b1 : (a0 != 3) = true:=bne_iff_ne.mpr c25
           by_cases c31 : a0 = 4
           ·
            rw [if_pos c31] at H
            have c31b0 : (a0 == 4) = true:=beq_iff_eq.mpr c31
            have c31b1 : (a0 != 4) = false:=bne_eq_false_iff_eq.mpr c31;clear c31
            by_cases c32 : (Int.tmod x7_2 2) = 0
            ·
             rw [if_pos c32] at H
             have c32b0 : ((Int.tmod x7_2 2) == 0) = true:=beq_iff_eq.mpr c32
             have c32b1 : ((Int.tmod x7_2 2) != 0) = false:=bne_eq_false_iff_eq.mpr c32;clear c32
             by_cases c33 : x5_2.length < 17592186044416
             ·
              rw [if_pos c33] at H
              have LMc33:=Aside0.mk c33;clear c33
              obtain ⟨y131,hy131⟩ : ∃ y_ : List Int,y_ = (x5_2 ++ [1]):=⟨_,rfl⟩
              replace H : (spec_l1Made.l1 k2 a0 a1 y131 x6_1 (wrap64 (x7_2 + 1))) = some r:=by first|(rw [hy131];with_reducible exact H)|(have H2_:=(Option.bind_some _ _).symm.trans H;rw [hy131];with_reducible exact H2_)|(have H2_:=(Option.bind_some _ _).symm.trans H;with_reducible exact H2_)|with_reducible exact H|(rw [hy131];exact H)|exact H
              have Ny131:=Aside0.mk hy131;clear hy131
              have H':=Aside0.mk H;clear H
              go_wp2_with (first|((with_reducible refine gate_builtin (b:=.append) (xs:=#[.tmp 54,.tmp 55]) rfl ?_);at_builtin;refine Kd.R_append (Kd.int .i64) (w0:=w) w.heap.size rfl (.tmp 54) (.tmp 55) 23 3 (.int .i64 0) 8 rfl Try.underlying23 info3 rfl (by decide) (by omega) u5 x5_2 1 [.int .i64 1] (fun _ => True) (fun _ => False) rfl rfl ?aP (fun _ hk => hk.elim) ?aF ?aO ?aB ?aS ?aL ?_;(case aP => exact rfl);(case aB => exact (belU HB.out));(case aF => exact (fun _ _ => trivial));(case aO => exact (rU HO_5.out));(case aS => exact (below_size (belU HB.out)));(case aL => have:=LMc33.out;omega);intro v132 w34 ho hb hg hat;rw [← Ny131.out] at ho;have n0_:=Aside0.mk (hb);have n1_:=Aside0.mk (ho);clear HB HO_5;have HB:=n0_;have HO133:=n1_;clear n0_ n1_ ho hb hg hat))
              go_roundg k2
              case measure => have:=HK1.out;have:=HK2.out;omega
              case rel => exact ⟨(y131),(wrap64 (x7_2 + 1)),(by first|rfl|(simp;done)|(simp [*];done)),H',⟨by have:=HK1.out;have:=HK2.out;omega⟩,⟨rU HO133.out⟩,⟨belU HB.out⟩⟩
             ·
              rw [if_neg c33] at H
              exact absurd H (by simp)
            ·
             rw [if_neg c32] at H
             have c32b0 : ((Int.tmod x7_2 2) == 0) = false:=beq_eq_false_iff_ne.mpr c32
             have c32b1 : ((Int.tmod x7_2 2) != 0) = true:=bne_iff_ne.mpr c32
             by_cases c35 : x5_2.length < 17592186044416
             ·
              rw [if_pos c35] at H
              have LMc35:=Aside0.mk c35;clear c35
              obtain ⟨y134,hy134⟩ : ∃ y_ : List Int,y_ = (x5_2 ++ [0]):=⟨_,rfl⟩
              replace H : (spec_l1Made.l1 k2 a0 a1 y134 x6_1 (wrap64 (x7_2 + 1))) = some r:=by first|(rw [hy134];with_reducible exact H)|(have H2_:=(Option.bind_some _ _).symm.trans H;rw [hy134];with_reducible exact H2_)|(have H2_:=(Option.bind_some _ _).symm.trans H;with_reducible exact H2_)|with_reducible exact H|(rw [hy134];exact H)|exact H
              have Ny134:=Aside0.mk hy134;clear hy134
              have H':=Aside0.mk H;clear H
              go_wp2_with (first|((with_reducible refine gate_builtin (b:=.append) (xs:=#[.tmp 57,.tmp 58]) rfl ?_);at_builtin;refine Kd.R_append (Kd.int .i64) (w0:=w) w.heap.size rfl (.tmp 57) (.tmp 58) 23 3 (.int .i64 0) 8 rfl Try.underlying23 info3 rfl (by decide) (by omega) u5 x5_2 0 [.int .i64 0] (fun _ => True) (fun _ => False) rfl rfl ?aP (fun _ hk => hk.elim) ?aF ?aO ?aB ?aS ?aL ?_;(case aP => exact rfl);(case aB => exact (belU HB.out));(case aF => exact (fun _ _ => trivial));(case aO => exact (rU HO_5.out));(case aS => exact (below_size (belU HB.out)));(case aL => have:=LMc35.out;omega);intro v135 w36 ho hb hg hat;rw [← Ny134.out] at ho;have n0_:=Aside0.mk (hb);have n1_:=Aside0.mk (ho);clear HB HO_5;have HB:=n0_;have HO136:=n1_;clear n0_ n1_ ho hb hg hat))
              go_roundg k2
              case measure => have:=HK1.out;have:=HK2.out;omega
              case rel => exact ⟨(y134),(wrap64 (x7_2 + 1)),(by first|rfl|(simp;done)|(simp [*];done)),H',⟨by have:=HK1.out;have:=HK2.out;omega⟩,⟨rU HO136.out⟩,⟨belU HB.out⟩⟩
             ·
              rw [if_neg c35] at H
              exact absurd H (by simp)
           ·
            rw [if_neg c31] at H
            have c31b0 : (a0 == 4) = false:=beq_eq_false_iff_ne.mpr c31
            have c31b1 : (a0 != 4) = true:=bne_iff_ne.mpr c31
            by_cases c37 : a0 = 5
            ·
             rw [if_pos c37] at H
             have c37b0 : (a0 == 5) = true:=beq_iff_eq.mpr c37
             have c37b1 : (a0 != 5) = false:=bne_eq_false_iff_eq.mpr c37;clear c37
             by_cases c38 : (wrap64 (x6_1 - x7_2)) = a1
             ·
              rw [if_pos c38] at H
              have c38b0 : ((wrap64 (x6_1 - x7_2)) == a1) = true:=beq_iff_eq.mpr c38
              have c38b1 : ((wrap64 (x6_1 - x7_2)) != a1) = false:=bne_eq_false_iff_eq.mpr c38;clear c38
              by_cases c39 : x5_2.length < 17592186044416
              ·
               rw [if_pos c39] at H
               have LMc39:=Aside0.mk c39;clear c39
               obtain ⟨y137,hy137⟩ : ∃ y_ : List Int,y_ = (x5_2 ++ [1]):=⟨_,rfl⟩
               replace H : (spec_l1Made.l1 k2 a0 a1 y137 x6_1 (wrap64 (x7_2 + 1))) = some r:=by first|(rw [hy137];with_reducible exact H)|(have H2_:=(Option.bind_some _ _).symm.trans H;rw [hy137];with_reducible exact H2_)|(have H2_:=(Option.bind_some _ _).symm.trans H;with_reducible exact H2_)|with_reducible exact H|(rw [hy137];exact H)|exact H
               have Ny137:=Aside0.mk hy137;clear hy137
               have H':=Aside0.mk H;clear H
               go_wp2_with (first|((with_reducible refine gate_builtin (b:=.append) (xs:=#[.tmp 54,.tmp 55]) rfl ?_);at_builtin;refine Kd.R_append (Kd.int .i64) (w0:=w) w.heap.size rfl (.tmp 54) (.tmp 55) 23 3 (.int .i64 0) 8 rfl Try.underlying23 info3 rfl (by decide) (by omega) u5 x5_2 1 [.int .i64 1] (fun _ => True) (fun _ => False) rfl rfl ?aP (fun _ hk => hk.elim) ?aF ?aO ?aB ?aS ?aL ?_;(case aP => exact rfl);(case aB => exact (belU HB.out));(case aF => exact (fun _ _ => trivial));(case aO => exact (rU HO_5.out));(case aS => exact (below_size (belU HB.out)));(case aL => have:=LMc39.out;omega);intro v138 w40 ho hb hg hat;rw [← Ny137.out] at ho;have n0_:=Aside0.mk (hb);have n1_:=Aside0.mk (ho);clear HB HO_5;have HB:=n0_;have HO139:=n1_;clear n0_ n1_ ho hb hg hat))
               go_roundg k2
               case measure => have:=HK1.out;have:=HK2.out;omega
               case rel => exact ⟨(y137),(wrap64 (x7_2 + 1)),(by first|rfl|(simp;done)|(simp [*];done)),H',⟨by have:=HK1.out;have:=HK2.out;omega⟩,⟨rU HO139.out⟩,⟨belU HB.out⟩⟩
              ·
               rw [if_neg c39] at H
               exact absurd H (by simp)
             ·
              rw [if_neg c38] at H
              have c38b0 : ((wrap64 (x6_1 - x7_2)) == a1) = false:=beq_eq_false_iff_ne.mpr c38
              have c38b1 : ((wrap64 (x6_1 - x7_2)) != a1) = true:=bne_iff_ne.mpr c38
              by_cases c41 : x5_2.length < 17592186044416
              ·
               rw [if_pos c41] at H
               have LMc41:=Aside0.mk c41;clear c41
               obtain ⟨y140,hy140⟩ : ∃ y_ : List Int,y_ = (x5_2 ++ [0]):=⟨_,rfl⟩
               replace H : (spec_l1Made.l1 k2 a0 a1 y140 x6_1 (wrap64 (x7_2 + 1))) = some r:=by first|(rw [hy140];with_reducible exact H)|(have H2_:=(Option.bind_some _ _).symm.trans H;rw [hy140];with_reducible exact H2_)|(have H2_:=(Option.bind_some _ _).symm.trans H;with_reducible exact H2_)|with_reducible exact H|(rw [hy140];exact H)|exact H
               have Ny140:=Aside0.mk hy140;clear hy140
               have H':=Aside0.mk H;clear H
               go_wp2_with (first|((with_reducible refine gate_builtin (b:=.append) (xs:=#[.tmp 57,.tmp 58]) rfl ?_);at_builtin;refine Kd.R_append (Kd.int .i64) (w0:=w) w.heap.size rfl (.tmp 57) (.tmp 58) 23 3 (.int .i64 0) 8 rfl Try.underlying23 info3 rfl (by decide) (by omega) u5 x5_2 0 [.int .i64 0] (fun _ => True) (fun _ => False) rfl rfl ?aP (fun _ hk => hk.elim) ?aF ?aO ?aB ?aS ?aL ?_;(case aP => exact rfl);(case aB => exact (belU HB.out));(case aF => exact (fun _ _ => trivial));(case aO => exact (rU HO_5.out));(case aS => exact (below_size (belU HB.out)));(case aL => have:=LMc41.out;omega);intro v141 w42 ho hb hg hat;rw [← Ny140.out] at ho;have n0_:=Aside0.mk (hb);have n1_:=Aside0.mk (ho);clear HB HO_5;have HB:=n0_;have HO142:=n1_;clear n0_ n1_ ho hb hg hat))
               go_roundg k2
               case measure => have:=HK1.out;have:=HK2.out;omega
               case rel => exact ⟨(y140),(wrap64 (x7_2 + 1)),(by first|rfl|(simp;done)|(simp [*];done)),H',⟨by have:=HK1.out;have:=HK2.out;omega⟩,⟨rU HO142.out⟩,⟨belU HB.out⟩⟩
              ·
               rw [if_neg c41] at H
               exact absurd H (by simp)
            ·
             rw [if_neg c37] at H
             have c37b0 : (a0 == 5) = false:=beq_eq_false_iff_ne.mpr c37
             have c37b1 : (a0 != 5) = true:=bne_iff_ne.mpr c37
             by_cases c43 : x5_2.length < 17592186044416
             ·
              rw [if_pos c43] at H
              have LMc43:=Aside0.mk c43;clear c43
              obtain ⟨y143,hy143⟩ : ∃ y_ : List Int,y_ = (x5_2 ++ [0]):=⟨_,rfl⟩
              replace H : (spec_l1Made.l1 k2 a0 a1 y143 x6_1 (wrap64 (x7_2 + 1))) = some r:=by first|(rw [hy143];with_reducible exact H)|(have H2_:=(Option.bind_some _ _).symm.trans H;rw [hy143];with_reducible exact H2_)|(have H2_:=(Option.bind_some _ _).symm.trans H;with_reducible exact H2_)|with_reducible exact H|(rw [hy143];exact H)|exact H
              have Ny143:=Aside0.mk hy143;clear hy143
              have H':=Aside0.mk H;clear H
              go_wp2_with (first|((with_reducible refine gate_builtin (b:=.append) (xs:=#[.tmp 57,.tmp 58]) rfl ?_);at_builtin;refine Kd.R_append (Kd.int .i64) (w0:=w) w.heap.size rfl (.tmp 57) (.tmp 58) 23 3 (.int .i64 0) 8 rfl Try.underlying23 info3 rfl (by decide) (by omega) u5 x5_2 0 [.int .i64 0] (fun _ => True) (fun _ => False) rfl rfl ?aP (fun _ hk => hk.elim) ?aF ?aO ?aB ?aS ?aL ?_;(case aP => exact rfl);(case aB => exact (belU HB.out));(case aF => exact (fun _ _ => trivial));(case aO => exact (rU HO_5.out));(case aS => exact (below_size (belU HB.out)));(case aL => have:=LMc43.out;omega);intro v144 w44 ho hb hg hat;rw [← Ny143.out] at ho;have n0_:=Aside0.mk (hb);have n1_:=Aside0.mk (ho);clear HB HO_5;have HB:=n0_;have HO145:=n1_;clear n0_ n1_ ho hb hg hat))
              go_roundg k2
              case measure => have:=HK1.out;have:=HK2.out;omega
              case rel => exact ⟨(y143),(wrap64 (x7_2 + 1)),(by first|rfl|(simp;done)|(simp [*];done)),H',⟨by have:=HK1.out;have:=HK2.out;omega⟩,⟨rU HO145.out⟩,⟨belU HB.out⟩⟩
             ·
              rw [if_neg c43] at H
              exact absurd H (by simp)
      ·
       rw [if_neg c6] at H
       have c6b0 : decide (x7_2 ≤ x6_1) = false:=decide_eq_false c6;clear c6
       have H':=Aside0.mk H;clear H
       go_wp2
       go_roundg k2
       case measure => have:=HK1.out;have:=HK2.out;omega
       case rel => exact ⟨(x5_2),(wrap64 (x6_1 + 1)),(by first|rfl|(simp;done)|(simp [*];done)),H',⟨by have:=HK1.out;have:=HK2.out;omega⟩,⟨rU HO_5.out⟩,⟨belU HB.out⟩⟩
   ·
    rw [if_neg c5] at H
    have c5b0 : decide (x6_1 ≤ 5) = false:=decide_eq_false c5;clear c5
    obtain rfl:=Option.some.inj H
    go_wp2
    go_ret
    exact ⟨_,by first|rfl|(simp [errW_none,errW_some] <;> rfl)|(simp [*,errW_none,errW_some] <;> rfl),rU HO_5.out,belU HB.out⟩

end Go.Proofs.Ytmeamfkjfpaciaa.PA
