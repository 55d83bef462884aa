/- The machine side of functions of this seat, written by the session's program myprint.py: for each Go function a Lean function and the proof that the call answers just it. -/
import Derived.Test.YtmeamfkjfpaciaaPAx0
import Derived.Test.YtmeamfkjfpaciaaUp
import Derived.Test.YtmeamfkjfpaciaaPAx5
namespace Go.Proofs.Ytmeamfkjfpaciaa.PA
open Go.RowKit Go.Proofs.YtmeamfkjfpaciaaW.PrintWords Go.Proofs.YtmeamfkjfpaciaaW.PrintLast Go.Proofs.YtmeamfkjfpaciaaW.PrintMore
attribute [local go_sem] max2_int min2_int max_two min_two max_three min_three max_four min_four   -- for this text's walks alone
set_option linter.unusedVariables false
set_option linter.unusedSimpArgs false

/-! ### spec_InsideNot: function 47 -/
mutual
def spec_InsideNot.l0 : Nat → List Int → List Int → Int → Option (List Int)
 | 0,_,_,_ => none
 | k + 1,x0,x3,x4 => if x4 ≤ 5 then ((spec_TriangleOk.f k x0).bind fun t199 => (spec_InsideNot.j1 k x0 x3 x4 t199)) else (spec_InsideNot.j1 k x0 x3 x4 false)
def spec_InsideNot.j1 : Nat → List Int → List Int → Int → Bool → Option (List Int)
 | 0,_,_,_,_ => none
 | k + 1,x0,x3,x4,x12 => if x12 = true then (spec_InsideNot.l1 k x0 x3 x4 0) else (some x3)
def spec_InsideNot.l1 : Nat → List Int → List Int → Int → Int → Option (List Int)
 | 0,_,_,_,_ => none
 | k + 1,x0,x3,x4,x5 => if x5 ≤ x4 then ((spec_PlaceOf.f x4 (wrap64 (x4 - x5))).bind fun t200 => (if 0 ≤ t200 then (if t200 < (x0.length : Int) then (if x3.length < 17592186044416 then (spec_InsideNot.l1 k x0 (x3 ++ [rd x0 t200]) x4 (wrap64 (x5 + 1))) else (none)) else (none)) else (none))) else (spec_InsideNot.l0 k x0 x3 (wrap64 (x4 + 1)))
end
def spec_InsideNot.f (k : Nat) (l0 : List Int) : Option (List Int):=spec_InsideNot.l0 k l0 (([] : List Int)) 0
theorem spec_InsideNot.mono_l : ∀ k,(∀ y0 y1 y2,LeO (spec_InsideNot.l0 k y0 y1 y2) (spec_InsideNot.l0 (k + 1) y0 y1 y2)) ∧ (∀ y0 y1 y2 y3,LeO (spec_InsideNot.j1 k y0 y1 y2 y3) (spec_InsideNot.j1 (k + 1) y0 y1 y2 y3)) ∧ (∀ y0 y1 y2 y3,LeO (spec_InsideNot.l1 k y0 y1 y2 y3) (spec_InsideNot.l1 (k + 1) y0 y1 y2 y3))
 | 0 => ⟨fun _ _ _ r h => by simp [spec_InsideNot.l0] at h,fun _ _ _ _ r h => by simp [spec_InsideNot.j1] at h,fun _ _ _ _ r h => by simp [spec_InsideNot.l1] at h⟩
 | k + 1 => by
  obtain ⟨ih0,ih1,ih2⟩:=spec_InsideNot.mono_l k
  refine ⟨?_,?_,?_⟩
  ·
   intro y0 y1 y2
   unfold spec_InsideNot.l0
   repeat' first
   | (with_reducible exact ih0 _ _ _)
   | (with_reducible exact ih1 _ _ _ _)
   | (with_reducible exact ih2 _ _ _ _)
   | (with_reducible exact spec_TriangleOk.mono _ _)
   | (with_reducible exact LeO.refl _)
   | (with_reducible exact LeO.none _)
   | (with_reducible refine LeO.ite ?_ ?_)
   | (with_reducible refine LeO.bind ?_ (fun _ => ?_))
   | exact ih0 _ _ _
   | exact ih1 _ _ _ _
   | exact ih2 _ _ _ _
   | exact spec_TriangleOk.mono _ _
   | exact LeO.none _
   | refine LeO.ite ?_ ?_
   | refine LeO.bind ?_ (fun _ => ?_)
  ·
   intro y0 y1 y2 y3
   unfold spec_InsideNot.j1
   repeat' first
   | (with_reducible exact ih0 _ _ _)
   | (with_reducible exact ih1 _ _ _ _)
   | (with_reducible exact ih2 _ _ _ _)
   | (with_reducible exact spec_TriangleOk.mono _ _)
   | (with_reducible exact LeO.refl _)
   | (with_reducible exact LeO.none _)
   | (with_reducible refine LeO.ite ?_ ?_)
   | (with_reducible refine LeO.bind ?_ (fun _ => ?_))
   | exact ih0 _ _ _
   | exact ih1 _ _ _ _
   | exact ih2 _ _ _ _
   | exact spec_TriangleOk.mono _ _
   | exact LeO.none _
   | refine LeO.ite ?_ ?_
   | refine LeO.bind ?_ (fun _ => ?_)
  ·
   intro y0 y1 y2 y3
   unfold spec_InsideNot.l1
   repeat' first
   | (with_reducible exact ih0 _ _ _)
   | (with_reducible exact ih1 _ _ _ _)
   | (with_reducible exact ih2 _ _ _ _)
   | (with_reducible exact spec_TriangleOk.mono _ _)
   | (with_reducible exact LeO.refl _)
   | (with_reducible exact LeO.none _)
   | (with_reducible refine LeO.ite ?_ ?_)
   | (with_reducible refine LeO.bind ?_ (fun _ => ?_))
   | exact ih0 _ _ _
   | exact ih1 _ _ _ _
   | exact ih2 _ _ _ _
   | exact spec_TriangleOk.mono _ _
   | exact LeO.none _
   | refine LeO.ite ?_ ?_
   | refine LeO.bind ?_ (fun _ => ?_)
theorem spec_InsideNot.mono : ∀ a0 k,LeO (spec_InsideNot.f k a0) (spec_InsideNot.f (k + 1) a0):=by
 intro a0 k
 obtain ⟨ih0,ih1,ih2⟩:=spec_InsideNot.mono_l k
 unfold spec_InsideNot.f
 repeat' first
   | (with_reducible exact ih0 _ _ _)
   | (with_reducible exact ih1 _ _ _ _)
   | (with_reducible exact ih2 _ _ _ _)
   | (with_reducible exact spec_TriangleOk.mono _ _)
   | (with_reducible exact LeO.refl _)
   | (with_reducible exact LeO.none _)
   | (with_reducible refine LeO.ite ?_ ?_)
   | (with_reducible refine LeO.bind ?_ (fun _ => ?_))
   | exact ih0 _ _ _
   | exact ih1 _ _ _ _
   | exact ih2 _ _ _ _
   | exact spec_TriangleOk.mono _ _
   | exact LeO.none _
   | refine LeO.ite ?_ ?_
   | refine LeO.bind ?_ (fun _ => ?_)
set_option maxHeartbeats 8000000 in
set_option maxRecDepth 100000 in
theorem spec_InsideNot.calls (k : Nat) (A0 : Option Addr) (c0 : Nat) (l0 : List Int) (r : List Int) (w : World) (hr0 : Kd.C (Kd.int .i64) w A0 l0.length l0) (hc0 : l0.length ≤ c0) (h : spec_InsideNot.f k l0 = some r) :
  Calls Try.prog 47 #[.slice A0 l0.length c0] w fun e w' => ∃ v0_ : Value,e = .returned (v0_) ∧ Kd.R (Kd.int .i64) 3 w' w.heap.size (fun _ => True) v0_ r ∧ Below w.heap.size w w':=by
 have HR0:=Aside0.mk hr0
 have HC0:=Aside0.mk hc0;clear hr0 hc0;have HB:=Aside0.mk (Below.refl w.heap.size w)
 have H : (spec_InsideNot.l0 k l0 (([] : List Int)) 0) = some r:=h;clear h
 obtain ⟨y196,hy196⟩ : ∃ y_ : List Int,y_ = (([] : List Int)):=⟨_,rfl⟩
 replace H : (spec_InsideNot.l0 k l0 y196 0) = some r:=by first|(rw [hy196];with_reducible exact H)|(have H2_:=(Option.bind_some _ _).symm.trans H;rw [hy196];with_reducible exact H2_)|(have H2_:=(Option.bind_some _ _).symm.trans H;with_reducible exact H2_)|with_reducible exact H|(rw [hy196];exact H)|exact H
 have Ny196:=Aside0.mk hy196;clear hy196
 have H':=Aside0.mk H;clear H
 go_enter Try.func47,Try.ntmps47
 go_wp2_with (first|((with_reducible refine gate_dst (N:=6) rfl ?_);refine Kd.R_lit (Kd.int .i64) _ 3 ?hg (N:=6) ?hd (xs:=([] : List Int)) (inner:=[]) (ok:=fun _ => True) (okp:=fun _ => True) ?hr ?hp (fun _ hk => hk) trivial (Below.refl _ _) (Nat.le_refl _) (by simp) ?_;(case hd => rfl);(case hg => rfl);(case hr => first|(go_simp;done)|(go_simp;rfl));(case hp => exact (Reps.none _ _));intro v197 w2 ho3 hb hg_ hnew_;clear hg_ hnew_;(first|rw [← Ny196.out] at ho3|(simp only [Int.reduceToNat] at ho3;rw [← Ny196.out] at ho3));have n0_:=Aside0.mk (Kd.R_lower ho3 (below_size (belU HB.out)));have n1_:=Aside0.mk (below_step (belU HB.out) hb);clear HB;have HO198:=n0_;have HB:=n1_;clear n0_ n1_ hb ho3))
 go_loopg [3,4] k (fun kq v3 v4 w' => ∃ (x3_1 : List Int) (x4_1 : Int),v4 = .int .i64 x4_1 ∧ Aside0 (spec_InsideNot.l0 kq l0 x3_1 x4_1 = some r) ∧ Aside0 (kq ≤ k) ∧ Aside0 (Kd.R (Kd.int .i64) 3 w' w.heap.size (fun _ => True) v3 x3_1) ∧ Aside0 (Below w.heap.size w w'))
 case atStart => exact ⟨(y196),(0),(by first|rfl|(simp;done)|(simp [*];done)),H',⟨Nat.le_refl _⟩,⟨rU HO198.out⟩,⟨belU HB.out⟩⟩
 case round =>
  clear H'
  try clear p2
  obtain ⟨x3_1,x4_1,rfl,HA,HK1,HO_3,HB⟩:=hrel
  cases gk with
  | zero => exact absurd HA.out (by simp [spec_InsideNot.l0])
  | succ k1 =>
   have H:=HA.out;clear HA
   simp only [spec_InsideNot.l0] at H
   have HC4:=Aside0.mk H;clear H
   go_upto_region 3 with (fail)
   go_cut [12] (fun v12 wc => ∃ (kq : Nat) (x12_3 : Bool),v12 = .bool x12_3 ∧ Aside0 (spec_InsideNot.j1 kq l0 x3_1 x4_1 x12_3 = some r) ∧ Aside0 (kq ≤ k1) ∧ Aside0 (Kd.R (Kd.int .i64) 3 wc w.heap.size (fun _ => True) u3 x3_1) ∧ Aside0 (Below w.heap.size w wc))
   case first =>
    have H:=HC4.out;clear HC4
    by_cases c5 : x4_1 ≤ 5
    ·
     rw [if_pos c5] at H
     have c5b0 : decide (x4_1 ≤ 5) = true:=decide_eq_true c5;clear c5
     (first|rw [c5b0]|(simp only [i64_w,i32_w];rw [c5b0])|skip)
     replace H:=Option.bind_eq_some_iff.mp H
     obtain ⟨t199,A60,H⟩:=H
     replace H : (spec_InsideNot.j1 k1 l0 x3_1 x4_1 t199) = some r:=H
     have A6:=Aside0.mk A60;clear A60
     have H':=Aside0.mk H;clear H
     go_wp2_with (first|(go_at_call 17;(with_reducible refine (spec_TriangleOk.calls k1 _ _ l0 t199 _ ?side1 ?side2 A6.out).mono ?_);(case side1 => exact cU (Kd.C_below HR0.out HB.out));(case side2 => exact HC0.out);rintro e w' ⟨rfl,⟨nd,rfl⟩⟩))
     go_meet
     case rel => exact ⟨_,(t199),(by first|rfl|(simp;done)|(simp [*];done)),H',⟨by have:=HK1.out;first|omega|exact Nat.le_refl _⟩,⟨rU HO_3.out⟩,⟨belU HB.out⟩⟩
    ·
     rw [if_neg c5] at H
     have c5b0 : decide (x4_1 ≤ 5) = false:=decide_eq_false c5;clear c5
     (first|rw [c5b0]|(simp only [i64_w,i32_w];rw [c5b0])|skip)
     have H':=Aside0.mk H;clear H
     go_wp2
     go_meet
     case rel => exact ⟨_,(false),(by first|rfl|(simp;done)|(simp [*];done)),H',⟨by have:=HK1.out;first|omega|exact Nat.le_refl _⟩,⟨rU HO_3.out⟩,⟨belU HB.out⟩⟩
   case rest =>
    clear HC4
    try clear p2
    try clear c4
    try clear c5
    try clear c5b0
    try clear p2
    obtain ⟨kq,x12_3,rfl,HA,HJ3,HO_3,HB⟩:=hcut
    cases kq with
    | zero => exact absurd HA.out (by simp [spec_InsideNot.j1])
    | succ kj3 =>
     have H:=HA.out;clear HA
     simp only [spec_InsideNot.j1] at H
     by_cases c7 : x12_3 = true
     ·
      subst c7
      have H1 : (spec_InsideNot.l1 kj3 l0 x3_1 x4_1 0) = some r:=by rw [if_pos rfl] at H;exact H
      clear H;have H:=H1;clear H1
      have H':=Aside0.mk H;clear H
      go_wp2
      go_loopg [3,5] kj3 (fun kq v3 v5 w' => ∃ (x3_3 : List Int) (x5_3 : Int),v5 = .int .i64 x5_3 ∧ Aside0 (spec_InsideNot.l1 kq l0 x3_3 x4_1 x5_3 = some r) ∧ Aside0 (kq ≤ kj3) ∧ Aside0 (Kd.R (Kd.int .i64) 3 w' w.heap.size (fun _ => True) v3 x3_3) ∧ Aside0 (Below w.heap.size w w'))
      case atStart => exact ⟨(x3_1),(0),(by first|rfl|(simp;done)|(simp [*];done)),H',⟨Nat.le_refl _⟩,⟨rU HO_3.out⟩,⟨belU HB.out⟩⟩
      case round =>
       clear H'
       try clear p2
       try clear c4
       try clear c5
       try clear c5b0
       try clear c7
       try clear p2
       obtain ⟨x3_3,x5_3,rfl,HA,HK3,HO_3,HB⟩:=hrel
       cases gk with
       | zero => exact absurd HA.out (by simp [spec_InsideNot.l1])
       | succ k3 =>
        have H:=HA.out;clear HA
        simp only [spec_InsideNot.l1] at H
        by_cases c8 : x5_3 ≤ x4_1
        ·
         rw [if_pos c8] at H
         have c8b0 : decide (x5_3 ≤ x4_1) = true:=decide_eq_true c8;clear c8
         replace H:=Option.bind_eq_some_iff.mp H
         obtain ⟨t200,A90,H⟩:=H
         replace H : (if 0 ≤ t200 then (if t200 < (l0.length : Int) then (if x3_3.length < 17592186044416 then (spec_InsideNot.l1 k3 l0 (x3_3 ++ [rd l0 t200]) x4_1 (wrap64 (x5_3 + 1))) else (none)) else (none)) else (none)) = some r:=H
         have A9:=Aside0.mk A90;clear A90
         by_cases c10 : 0 ≤ t200
         ·
          rw [if_pos c10] at H
          have c10b0 : decide (0 ≤ t200) = true:=decide_eq_true c10;clear c10
          by_cases c11 : t200 < (l0.length : Int)
          ·
           rw [if_pos c11] at H
           have c11b0 : decide (t200 < (l0.length : Int)) = true:=decide_eq_true c11;clear c11
           by_cases c12 : x3_3.length < 17592186044416
           ·
            rw [if_pos c12] at H
            have LMc12:=Aside0.mk c12;clear c12
            obtain ⟨y202,hy202⟩ : ∃ y_ : List Int,y_ = (x3_3 ++ [rd l0 t200]):=⟨_,rfl⟩
            replace H : (spec_InsideNot.l1 k3 l0 y202 x4_1 (wrap64 (x5_3 + 1))) = some r:=by first|(rw [hy202];with_reducible exact H)|(have H2_:=(Option.bind_some _ _).symm.trans H;rw [hy202];with_reducible exact H2_)|(have H2_:=(Option.bind_some _ _).symm.trans H;with_reducible exact H2_)|with_reducible exact H|(rw [hy202];exact H)|exact H
            have Ny202:=Aside0.mk hy202;clear hy202
            have H':=Aside0.mk H;clear H
            go_wp2_with (first|((with_reducible refine gate_callee (f:=28) rfl ?_);refine goesL_ (some 26) rfl rfl Try.func28 (by kernel_rfl) rfl #[.int .i64 x4_1,.int .i64 (wrap64 (x4_1 - x5_3))] rfl (by (try simp only [List.map_toArray,List.map_cons,List.map_nil]);first|done|rfl|(simp only [List.length_drop,List.length_take];rfl)) ?_;(with_reducible refine (spec_PlaceOf.calls x4_1 (wrap64 (x4_1 - x5_3)) t200 _ A9.out).mono ?_);rintro e w' ⟨rfl,⟨nd,rfl⟩⟩;refine ⟨_,rfl,?_⟩;have p201 : 0 ≤ (t200 : Int):=of_decide_eq_true (by first|(with_reducible assumption)|assumption);have q201 : t200 < (l0.length : Int):=of_decide_eq_true (by first|(with_reducible assumption)|assumption);obtain ⟨ad201,e201,hx201_0⟩:=Kd.at_int HR0.out t200 p201 q201;cases e201;replace hx201_0:=(HB.out.cell (World.block_lt_of_cell? w _ hx201_0)).trans hx201_0;replace p201:=eq_true p201;replace q201:=eq_true q201)|((with_reducible refine gate_builtin (b:=.append) (xs:=#[.tmp 20,.tmp 29]) rfl ?_);at_builtin;refine Kd.R_append (Kd.int .i64) (w0:=w) w.heap.size rfl (.tmp 20) (.tmp 29) 23 3 (.int .i64 0) 8 rfl Try.underlying23 info3 rfl (by decide) (by omega) u3 x3_3 (rd l0 t200) [.int .i64 (rd l0 t200)] (fun _ => True) (fun _ => False) rfl rfl ?aP (fun _ hk => hk.elim) ?aF ?aO ?aB ?aS ?aL ?_;(case aP => exact rfl);(case aB => exact (belU HB.out));(case aF => exact (fun _ _ => trivial));(case aO => exact (rU HO_3.out));(case aS => exact (below_size (belU HB.out)));(case aL => have:=LMc12.out;omega);intro v203 w13 ho hb hg hat;rw [← Ny202.out] at ho;have n0_:=Aside0.mk (hb);have n1_:=Aside0.mk (ho);clear HB HO_3;have HB:=n0_;have HO204:=n1_;clear n0_ n1_ ho hb hg hat))
            go_roundg k3
            case measure => have:=HK1.out;have:=HJ3.out;have:=HK3.out;omega
            case rel => exact ⟨(y202),(wrap64 (x5_3 + 1)),(by first|rfl|(simp;done)|(simp [*];done)),H',⟨by have:=HK1.out;have:=HJ3.out;have:=HK3.out;omega⟩,⟨rU HO204.out⟩,⟨belU HB.out⟩⟩
           ·
            rw [if_neg c12] at H
            exact absurd H (by simp)
          ·
           rw [if_neg c11] at H
           exact absurd H (by simp)
         ·
          rw [if_neg c10] at H
          exact absurd H (by simp)
        ·
         rw [if_neg c8] at H
         have c8b0 : decide (x5_3 ≤ x4_1) = false:=decide_eq_false c8;clear c8
         have H':=Aside0.mk H;clear H
         go_wp2
         go_roundg k3
         case measure => have:=HK1.out;have:=HJ3.out;have:=HK3.out;omega
         case rel => exact ⟨(x3_3),(wrap64 (x4_1 + 1)),(by first|rfl|(simp;done)|(simp [*];done)),H',⟨by have:=HK1.out;have:=HJ3.out;have:=HK3.out;omega⟩,⟨rU HO_3.out⟩,⟨belU HB.out⟩⟩
     ·
      replace c7:=Bool.eq_false_iff.mpr c7;subst c7
      have H1 : (some x3_1) = some r:=by rw [if_neg (show ¬ (false = true) by decide)] at H;exact H
      clear H;have H:=H1;clear H1
      obtain rfl:=Option.some.inj H
      go_wp2
      go_ret
      exact ⟨_,by first|rfl|(simp [errW_none,errW_some] <;> rfl)|(simp [*,errW_none,errW_some] <;> rfl),rU HO_3.out,belU HB.out⟩

end Go.Proofs.Ytmeamfkjfpaciaa.PA
