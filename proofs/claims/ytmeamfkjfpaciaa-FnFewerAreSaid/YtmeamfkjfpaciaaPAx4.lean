/- The machine side of functions of this seat, written by the session's program myprint.py: for each Go function a Lean function and the proof that the call answers just it. -/
import Derived.Test.YtmeamfkjfpaciaaPAx0
import Derived.Test.YtmeamfkjfpaciaaUp
import Derived.Test.YtmeamfkjfpaciaaPAx2
import Derived.Test.YtmeamfkjfpaciaaPAx3
namespace Go.Proofs.Ytmeamfkjfpaciaa.PA
open Go.RowKit Go.Proofs.YtmeamfkjfpaciaaW.PrintWords Go.Proofs.YtmeamfkjfpaciaaW.PrintLast Go.Proofs.YtmeamfkjfpaciaaW.PrintMore
attribute [local go_sem] max2_int min2_int max_two min_two max_three min_three max_four min_four   -- for this text's walks alone
set_option linter.unusedVariables false
set_option linter.unusedSimpArgs false

/-! ### spec_NamedTriangle: function 44 -/
mutual
def spec_NamedTriangle.l0 : Nat → ByteArray → List ByteArray → Int → Option (List Int × Bool)
 | 0,_,_,_ => none
 | k + 1,x0,x4,x5 => if x5 < (x4.length : Int) then (if 0 ≤ x5 then (if x0.toList = (rdOf ByteArray.empty x4 x5).toList then ((some (([0,1,2,3,4] : List Int) : List Int)).bind fun y157 => (if x5 < (y157.length : Int) then ((some (([0,1,0,0,0] : List Int) : List Int)).bind fun y161 => (if x5 < (y161.length : Int) then ((spec_l1Made.f k (rd y157 x5) (rd y161 x5)).bind fun t165 => (some (t165,true))) else (none))) else (none))) else (spec_NamedTriangle.l0 k x0 x4 (wrap64 (x5 + 1)))) else (none)) else (spec_NamedTriangle.l1 k x0 0)
def spec_NamedTriangle.l1 : Nat → ByteArray → Int → Option (List Int × Bool)
 | 0,_,_ => none
 | k + 1,x0,x6 => if x6 ≤ 5 then ((spec_l1Number.f k x6).bind fun t171 => (if 7 + t171.size ≤ 9223372036854775807 then (if x0.toList = ((⟨#[97,116,108,101,97,115,116]⟩ : ByteArray) ++ t171).toList then (spec_NamedTriangle.j2 k x0 x6 t171 (decide (x6 > 0))) else (spec_NamedTriangle.j2 k x0 x6 t171 false)) else (none))) else (some ((([] : List Int)),false))
def spec_NamedTriangle.j2 : Nat → ByteArray → Int → ByteArray → Bool → Option (List Int × Bool)
 | 0,_,_,_,_ => none
 | k + 1,x0,x6,x7,x36 => if x36 = true then ((spec_l1Made.f k 1 x6).bind fun t172 => (some (t172,true))) else (if 4 + x7.size ≤ 9223372036854775807 then (if x0.toList = ((⟨#[106,117,115,116]⟩ : ByteArray) ++ x7).toList then ((spec_l1Made.f k 2 x6).bind fun t175 => (some (t175,true))) else (if 6 + x7.size ≤ 9223372036854775807 then (if x0.toList = ((⟨#[97,108,108,98,117,116]⟩ : ByteArray) ++ x7).toList then ((spec_l1Made.f k 5 x6).bind fun t178 => (some (t178,true))) else (spec_NamedTriangle.l1 k x0 (wrap64 (x6 + 1)))) else (none))) else (none))
end
def spec_NamedTriangle.f (k : Nat) (a0 : ByteArray) : Option (List Int × Bool):=spec_NamedTriangle.l0 k a0 (([(⟨#[101,118,101,114,121]⟩ : ByteArray),(⟨#[115,111,109,101]⟩ : ByteArray),(⟨#[110,111]⟩ : ByteArray),(⟨#[109,111,115,116]⟩ : ByteArray),(⟨#[101,118,101,110]⟩ : ByteArray)] : List ByteArray)) 0
theorem spec_NamedTriangle.mono_l : ∀ k,(∀ y0 y1 y2,LeO (spec_NamedTriangle.l0 k y0 y1 y2) (spec_NamedTriangle.l0 (k + 1) y0 y1 y2)) ∧ (∀ y0 y1,LeO (spec_NamedTriangle.l1 k y0 y1) (spec_NamedTriangle.l1 (k + 1) y0 y1)) ∧ (∀ y0 y1 y2 y3,LeO (spec_NamedTriangle.j2 k y0 y1 y2 y3) (spec_NamedTriangle.j2 (k + 1) y0 y1 y2 y3))
 | 0 => ⟨fun _ _ _ r h => by simp [spec_NamedTriangle.l0] at h,fun _ _ r h => by simp [spec_NamedTriangle.l1] at h,fun _ _ _ _ r h => by simp [spec_NamedTriangle.j2] at h⟩
 | k + 1 => by
  obtain ⟨ih0,ih1,ih2⟩:=spec_NamedTriangle.mono_l k
  refine ⟨?_,?_,?_⟩
  ·
   intro y0 y1 y2
   unfold spec_NamedTriangle.l0
   repeat' first
   | (with_reducible exact ih0 _ _ _)
   | (with_reducible exact ih1 _ _)
   | (with_reducible exact ih2 _ _ _ _)
   | (with_reducible exact spec_l1Made.mono _ _ _)
   | (with_reducible exact spec_l1Number.mono _ _)
   | (with_reducible exact LeO.refl _)
   | (with_reducible exact LeO.none _)
   | (with_reducible refine LeO.ite ?_ ?_)
   | (with_reducible refine LeO.bind ?_ (fun _ => ?_))
   | exact ih0 _ _ _
   | exact ih1 _ _
   | exact ih2 _ _ _ _
   | exact spec_l1Made.mono _ _ _
   | exact spec_l1Number.mono _ _
   | exact LeO.none _
   | refine LeO.ite ?_ ?_
   | refine LeO.bind ?_ (fun _ => ?_)
  ·
   intro y0 y1
   unfold spec_NamedTriangle.l1
   repeat' first
   | (with_reducible exact ih0 _ _ _)
   | (with_reducible exact ih1 _ _)
   | (with_reducible exact ih2 _ _ _ _)
   | (with_reducible exact spec_l1Made.mono _ _ _)
   | (with_reducible exact spec_l1Number.mono _ _)
   | (with_reducible exact LeO.refl _)
   | (with_reducible exact LeO.none _)
   | (with_reducible refine LeO.ite ?_ ?_)
   | (with_reducible refine LeO.bind ?_ (fun _ => ?_))
   | exact ih0 _ _ _
   | exact ih1 _ _
   | exact ih2 _ _ _ _
   | exact spec_l1Made.mono _ _ _
   | exact spec_l1Number.mono _ _
   | exact LeO.none _
   | refine LeO.ite ?_ ?_
   | refine LeO.bind ?_ (fun _ => ?_)
  ·
   intro y0 y1 y2 y3
   unfold spec_NamedTriangle.j2
   repeat' first
   | (with_reducible exact ih0 _ _ _)
   | (with_reducible exact ih1 _ _)
   | (with_reducible exact ih2 _ _ _ _)
   | (with_reducible exact spec_l1Made.mono _ _ _)
   | (with_reducible exact spec_l1Number.mono _ _)
   | (with_reducible exact LeO.refl _)
   | (with_reducible exact LeO.none _)
   | (with_reducible refine LeO.ite ?_ ?_)
   | (with_reducible refine LeO.bind ?_ (fun _ => ?_))
   | exact ih0 _ _ _
   | exact ih1 _ _
   | exact ih2 _ _ _ _
   | exact spec_l1Made.mono _ _ _
   | exact spec_l1Number.mono _ _
   | exact LeO.none _
   | refine LeO.ite ?_ ?_
   | refine LeO.bind ?_ (fun _ => ?_)
theorem spec_NamedTriangle.mono : ∀ a0 k,LeO (spec_NamedTriangle.f k a0) (spec_NamedTriangle.f (k + 1) a0):=by
 intro a0 k
 obtain ⟨ih0,ih1,ih2⟩:=spec_NamedTriangle.mono_l k
 unfold spec_NamedTriangle.f
 repeat' first
   | (with_reducible exact ih0 _ _ _)
   | (with_reducible exact ih1 _ _)
   | (with_reducible exact ih2 _ _ _ _)
   | (with_reducible exact spec_l1Made.mono _ _ _)
   | (with_reducible exact spec_l1Number.mono _ _)
   | (with_reducible exact LeO.refl _)
   | (with_reducible exact LeO.none _)
   | (with_reducible refine LeO.ite ?_ ?_)
   | (with_reducible refine LeO.bind ?_ (fun _ => ?_))
   | exact ih0 _ _ _
   | exact ih1 _ _
   | exact ih2 _ _ _ _
   | exact spec_l1Made.mono _ _ _
   | exact spec_l1Number.mono _ _
   | exact LeO.none _
   | refine LeO.ite ?_ ?_
   | refine LeO.bind ?_ (fun _ => ?_)
def spec_NamedTriangle.T6 : Bool × List (List Nat × List Nat):=(true,[([],[]),([],[]),([0,1],[0,1]),([2],[2]),([],[]),([],[]),([4,5],[4,5]),([6],[6]),([3,7],[3,7]),([8,8,0,1,2,3,4,5,6,7,8],[8]),([9,0,1,2,3,4,5,6,7,8,9],[])])
def spec_NamedTriangle.B6 : List Nat:=[0,0,3,7,0,0,48,112,255,511,1023]
theorem spec_NamedTriangle.tab6 : rtab .any (opsOf Try.f44 6) = spec_NamedTriangle.T6:=by kernel_rfl
theorem spec_NamedTriangle.bits6 : waitsOk spec_NamedTriangle.T6.2 spec_NamedTriangle.B6 = true:=by kernel_rfl
set_option maxHeartbeats 8000000 in
set_option maxRecDepth 100000 in
theorem spec_NamedTriangle.calls (k : Nat) (a0 : ByteArray) (r1 : List Int) (r2 : Bool) (w : World) (h : spec_NamedTriangle.f k a0 = some (r1,r2)) :
  Calls Try.prog 44 #[.string a0] w fun e w' => ∃ v0_ : Value,e = .returned (.tuple #[v0_,.bool r2]) ∧ Kd.R (Kd.int .i64) 3 w' w.heap.size (fun _ => True) v0_ r1 ∧ Below w.heap.size w w':=by
 have HB:=Aside0.mk (Below.refl w.heap.size w)
 have H : (spec_NamedTriangle.l0 k a0 (([(⟨#[101,118,101,114,121]⟩ : ByteArray),(⟨#[115,111,109,101]⟩ : ByteArray),(⟨#[110,111]⟩ : ByteArray),(⟨#[109,111,115,116]⟩ : ByteArray),(⟨#[101,118,101,110]⟩ : ByteArray)] : List ByteArray)) 0) = some (r1,r2):=h;clear h
 obtain ⟨y153,hy153⟩ : ∃ y_ : List ByteArray,y_ = (([(⟨#[101,118,101,114,121]⟩ : ByteArray),(⟨#[115,111,109,101]⟩ : ByteArray),(⟨#[110,111]⟩ : ByteArray),(⟨#[109,111,115,116]⟩ : ByteArray),(⟨#[101,118,101,110]⟩ : ByteArray)] : List ByteArray)):=⟨_,rfl⟩
 replace H : (spec_NamedTriangle.l0 k a0 y153 0) = some (r1,r2):=by first|(rw [hy153];with_reducible exact H)|(have H2_:=(Option.bind_some _ _).symm.trans H;rw [hy153];with_reducible exact H2_)|(have H2_:=(Option.bind_some _ _).symm.trans H;with_reducible exact H2_)|with_reducible exact H|(rw [hy153];exact H)|exact H
 have Ny153:=Aside0.mk hy153;clear hy153
 have H':=Aside0.mk H;clear H
 go_enter Try.func44,Try.ntmps44
 go_wp2_with (first|((with_reducible refine gate_dst (N:=8) rfl ?_);refine Kd.R_lit Kd.string _ 9 ?hg (N:=8) ?hd (xs:=([(⟨#[101,118,101,114,121]⟩ : ByteArray),(⟨#[115,111,109,101]⟩ : ByteArray),(⟨#[110,111]⟩ : ByteArray),(⟨#[109,111,115,116]⟩ : ByteArray),(⟨#[101,118,101,110]⟩ : ByteArray)] : List ByteArray)) (inner:=[.string (⟨#[101,118,101,114,121]⟩ : ByteArray),.string (⟨#[115,111,109,101]⟩ : ByteArray),.string (⟨#[110,111]⟩ : ByteArray),.string (⟨#[109,111,115,116]⟩ : ByteArray),.string (⟨#[101,118,101,110]⟩ : ByteArray)]) (ok:=fun _ => True) (okp:=fun _ => True) ?hr ?hp (fun _ hk => hk) trivial (Below.refl _ _) (Nat.le_refl _) (by simp) ?_;(case hd => rfl);(case hg => rfl);(case hr => first|(go_simp;done)|(go_simp;rfl));(case hp => exact (Reps.one (show Kd.M Kd.string _ _ _ (⟨#[101,118,101,114,121]⟩ : ByteArray) [.string (⟨#[101,118,101,114,121]⟩ : ByteArray)] from rfl) (Reps.one (show Kd.M Kd.string _ _ _ (⟨#[115,111,109,101]⟩ : ByteArray) [.string (⟨#[115,111,109,101]⟩ : ByteArray)] from rfl) (Reps.one (show Kd.M Kd.string _ _ _ (⟨#[110,111]⟩ : ByteArray) [.string (⟨#[110,111]⟩ : ByteArray)] from rfl) (Reps.one (show Kd.M Kd.string _ _ _ (⟨#[109,111,115,116]⟩ : ByteArray) [.string (⟨#[109,111,115,116]⟩ : ByteArray)] from rfl) (Reps.one (show Kd.M Kd.string _ _ _ (⟨#[101,118,101,110]⟩ : ByteArray) [.string (⟨#[101,118,101,110]⟩ : ByteArray)] from rfl) (Reps.none _ _)))))));intro v154 w2 ho3 hb hg_ hnew_;clear hg_ hnew_;(first|rw [← Ny153.out] at ho3|(simp only [Int.reduceToNat] at ho3;rw [← Ny153.out] at ho3));have n0_:=Aside0.mk (Kd.R_lower ho3 (below_size (belU HB.out)));have n1_:=Aside0.mk (below_step (belU HB.out) hb);clear HB;have HO155:=n0_;have HB:=n1_;clear n0_ n1_ hb ho3))
 go_loopg [5] k (fun kq v5 w' => ∃ (x5_1 : Int),v5 = .int .i64 x5_1 ∧ Aside0 (spec_NamedTriangle.l0 kq a0 y153 x5_1 = some (r1,r2)) ∧ Aside0 (kq ≤ k) ∧ Aside0 (Kd.R Kd.string 9 w' w.heap.size (fun _ => True) v154 y153) ∧ Aside0 (Below w.heap.size w w'))
 case atStart => exact ⟨(0),(by first|rfl|(simp;done)|(simp [*];done)),H',⟨Nat.le_refl _⟩,⟨rU HO155.out⟩,⟨belU HB.out⟩⟩
 case round =>
  clear H'
  try clear p2
  obtain ⟨x5_1,rfl,HA,HK1,HO_4,HB⟩:=hrel
  cases gk with
  | zero => exact absurd HA.out (by simp [spec_NamedTriangle.l0])
  | succ k1 =>
   have H:=HA.out;clear HA
   simp only [spec_NamedTriangle.l0] at H
   by_cases c4 : x5_1 < (y153.length : Int)
   ·
    rw [if_pos c4] at H
    have c4b0 : decide (x5_1 < (y153.length : Int)) = true:=decide_eq_true c4;clear c4
    by_cases c5 : 0 ≤ x5_1
    ·
     rw [if_pos c5] at H
     have c5b0 : decide (0 ≤ x5_1) = true:=decide_eq_true c5;clear c5
     by_cases c6 : a0.toList = (rdOf ByteArray.empty y153 x5_1).toList
     ·
      rw [if_pos c6] at H
      have c6b0 : (a0.toList == (rdOf ByteArray.empty y153 x5_1).toList) = true:=beq_iff_eq.mpr c6
      have c6b1 : (a0.toList != (rdOf ByteArray.empty y153 x5_1).toList) = false:=bne_eq_false_iff_eq.mpr c6;clear c6
      obtain ⟨y157,hy157⟩ : ∃ y_ : List Int,y_ = (([0,1,2,3,4] : List Int)):=⟨_,rfl⟩
      replace H : (if x5_1 < (y157.length : Int) then ((some (([0,1,0,0,0] : List Int) : List Int)).bind fun y161 => (if x5_1 < (y161.length : Int) then ((spec_l1Made.f k1 (rd y157 x5_1) (rd y161 x5_1)).bind fun t165 => (some (t165,true))) else (none))) else (none)) = some (r1,r2):=by first|(rw [hy157];with_reducible exact H)|(have H2_:=(Option.bind_some _ _).symm.trans H;rw [hy157];with_reducible exact H2_)|(have H2_:=(Option.bind_some _ _).symm.trans H;with_reducible exact H2_)|with_reducible exact H|(rw [hy157];exact H)|exact H
      have Ny157:=Aside0.mk hy157;clear hy157
      by_cases c7 : x5_1 < (y157.length : Int)
      ·
       rw [if_pos c7] at H
       have c7b0 : decide (x5_1 < (y157.length : Int)) = true:=decide_eq_true c7;clear c7
       obtain ⟨y161,hy161⟩ : ∃ y_ : List Int,y_ = (([0,1,0,0,0] : List Int)):=⟨_,rfl⟩
       replace H : (if x5_1 < (y161.length : Int) then ((spec_l1Made.f k1 (rd y157 x5_1) (rd y161 x5_1)).bind fun t165 => (some (t165,true))) else (none)) = some (r1,r2):=by first|(rw [hy161];with_reducible exact H)|(have H2_:=(Option.bind_some _ _).symm.trans H;rw [hy161];with_reducible exact H2_)|(have H2_:=(Option.bind_some _ _).symm.trans H;with_reducible exact H2_)|with_reducible exact H|(rw [hy161];exact H)|exact H
       have Ny161:=Aside0.mk hy161;clear hy161
       by_cases c8 : x5_1 < (y161.length : Int)
       ·
        rw [if_pos c8] at H
        have c8b0 : decide (x5_1 < (y161.length : Int)) = true:=decide_eq_true c8;clear c8
        replace H:=Option.bind_eq_some_iff.mp H
        obtain ⟨t165,A90,H⟩:=H
        replace H : (some (t165,true)) = some (r1,r2):=H
        have A9:=Aside0.mk A90;clear A90
        simp only [Option.some.injEq,Prod.mk.injEq] at H
        obtain ⟨rfl,rfl⟩:=H
        obtain ⟨Ao10,co10,eo10⟩:=Kd.R_slice HO_4.out;subst eo10
        have p156 : 0 ≤ (x5_1 : Int):=of_decide_eq_true (by first|(with_reducible assumption)|assumption)
        have q156 : x5_1 < (y153.length : Int):=of_decide_eq_true (by first|(with_reducible assumption)|assumption)
        obtain ⟨ad156,e156,hx156_0⟩:=Kd.at_string (Kd.R_reads' HO_4.out).2.2 x5_1 p156 q156
        cases e156
        replace p156:=eq_true p156
        replace q156:=eq_true q156
        try go_wp2
        have pi160 : (0 ≤ (x5_1 : Int)) = True:=eq_true (of_decide_eq_true (by first|(with_reducible assumption)|assumption))
        have qi160 : (x5_1 < (y157.length : Int)) = True:=eq_true (of_decide_eq_true (by first|(with_reducible assumption)|assumption))
        have pi164 : (0 ≤ (x5_1 : Int)) = True:=eq_true (of_decide_eq_true (by first|(with_reducible assumption)|assumption))
        have qi164 : (x5_1 < (y161.length : Int)) = True:=eq_true (of_decide_eq_true (by first|(with_reducible assumption)|assumption));have n0_:=Aside0.mk (Kd.R_drew HO_4.out);have n1_:=Aside0.mk (below_drew1 HB.out);clear HO_4 HB;have HO_4:=n0_;have HB:=n1_;clear n0_ n1_
        refine start_ (n:=11) (S:=fun w' => True) (ds:=[]) #[false,false,false,false,false,false,false,false,false,false,false] (by kernel_rfl) rfl rfl trivial (fun hHeld => ?_);refine with_tabW spec_NamedTriangle.tab6 spec_NamedTriangle.bits6 (fun HT_ HW_ => ?_)
        generalize wr.drew = w11 at HO_4 HB hHeld ⊢
        refine pure_ (i:=1) (N:=some 22) (v:=?_) (a':=?_) #[false,true,false,false,false,false,false,false,false,false,false] rfl rfl (any_of HT_.out (by kernel_rfl)) (fun _ _ _ h => h) (Or.inl ⟨by rfl,?_⟩) ?_ ?_;rotate_left
        ·
         intro w'
         go_simp
         with_reducible rfl
        rotate_left
        ·
         simp only [Act.put,List.setIfInBounds_toArray,List.set_cons_zero,List.set_cons_succ,i64_w,i32_w]
         rfl
        refine pure_ (i:=5) (N:=some 26) (v:=?_) (a':=?_) #[false,true,false,false,false,true,false,false,false,false,false] rfl rfl (any_of HT_.out (by kernel_rfl)) (fun _ _ _ h => h) (Or.inl ⟨by rfl,?_⟩) ?_ ?_;rotate_left
        ·
         intro w'
         go_simp
         with_reducible rfl
        rotate_left
        ·
         simp only [Act.put,List.setIfInBounds_toArray,List.set_cons_zero,List.set_cons_succ,i64_w,i32_w]
         rfl
        refine inv_at [0,2,3,4,6,7,8,9,10] (fun a0_ b a w' => ∃ (v158 : Value) (adz_v158 : Addr) (v162 : Value) (adz_v162 : Addr) (v166 : Value) (m2_ : Value) (m6_ : Value) (m9_ : Value),a = putSel a0_ b [(0,21,v158),(2,23,m2_),(3,24,.int .i64 (rd y157 x5_1)),(4,25,v162),(6,27,m6_),(7,28,.int .i64 (rd y161 x5_1)),(8,29,v166),(9,2,m9_),(10,3,.bool true)] ∧ (Kd.R Kd.string 9 w' w.heap.size (fun _ => True) (.slice (some ad156) y153.length co10) y153) ∧ (Below w.heap.size w w') ∧ (b 0 = true → Kd.R (Kd.int .i64) 3 w' w.heap.size (fun _ => True) v158 y157) ∧ (b 0 = true → ∃ c_,(v158 : Value) = .slice (some adz_v158) y157.length c_) ∧ (b 4 = true → Kd.R (Kd.int .i64) 3 w' w.heap.size (fun _ => True) v162 y161) ∧ (b 4 = true → ∃ c_,(v162 : Value) = .slice (some adz_v162) y161.length c_) ∧ (b 8 = true → Kd.R (Kd.int .i64) 3 w' w.heap.size (fun _ => True) v166 t165) ∧ (b 2 = true → (m2_ : Value) = .pointer (some (adz_v158.add (x5_1).toNat))) ∧ (b 6 = true → (m6_ : Value) = .pointer (some (adz_v162.add (x5_1).toNat))) ∧ (b 9 = true → (m9_ : Value) = v166)) HT_.out HW_.out (by kernel_rfl) (by kernel_rfl) ?_ ?_ ?_
        ·
         exact ⟨.bool false,⟨0,0,none⟩,.bool false,⟨0,0,none⟩,.bool false,.bool false,.bool false,.bool false,by simp only [putSel,Bool.false_eq_true,if_false],HO_4.out,HB.out,fun h_ => absurd h_ (by decide),fun h_ => absurd h_ (by decide),fun h_ => absurd h_ (by decide),fun h_ => absurd h_ (by decide),fun h_ => absurd h_ (by decide),fun h_ => absurd h_ (by decide),fun h_ => absurd h_ (by decide),fun h_ => absurd h_ (by decide)⟩
        ·
         skip;clear HB HO_4
         refine steps_cons ?_ ?_
         ·
          rintro b a w' ⟨v158,adz_v158,v162,adz_v162,v166,m2_,m6_,m9_,ha,Q_HO_4,Q_HB,Q_HO159,Q_HA_HO159,Q_HO163,Q_HA_HO163,Q_HO167,Q_X2_,Q_X6_,Q_X9_⟩ hb_ hon hoff
          refine ⟨_,rfl,fun K hK => ?_⟩
          replace ha:=Aside0.mk ha
          have HO_4:=Aside0.mk Q_HO_4
          have HB:=Aside0.mk Q_HB
          refine Kd.R_lit_step (Kd.int .i64) _ 3 ?hg (N:=21) ?hd (xs:=([0,1,2,3,4] : List Int)) (inner:=[.int .i64 0,.int .i64 1,.int .i64 2,.int .i64 3,.int .i64 4]) (ok:=fun _ => True) (okp:=fun _ => True) ?hr ?hp (fun _ hk => hk) trivial (Below.refl _ _) (Nat.le_refl _) (by simp) ?_;(case hd => rfl);(case hg => rfl);(case hr => first|(go_simp;done)|(go_simp;rfl));(case hp => exact (Reps.one (show Kd.M (Kd.int .i64) _ _ _ 0 [.int .i64 0] from rfl) (Reps.one (show Kd.M (Kd.int .i64) _ _ _ 1 [.int .i64 1] from rfl) (Reps.one (show Kd.M (Kd.int .i64) _ _ _ 2 [.int .i64 2] from rfl) (Reps.one (show Kd.M (Kd.int .i64) _ _ _ 3 [.int .i64 3] from rfl) (Reps.one (show Kd.M (Kd.int .i64) _ _ _ 4 [.int .i64 4] from rfl) (Reps.none _ _)))))));intro v158 w12 ho13 hb hg_ hnew_;clear hg_ hnew_
          (first|rw [← Ny157.out] at ho13|(simp only [Int.reduceToNat] at ho13;rw [← Ny157.out] at ho13));have n0_:=Aside0.mk (Kd.R_below (rU HO_4.out) hb);have n1_:=Aside0.mk (Kd.R_lower ho13 (below_size (belU HB.out)));have n2_:=Aside0.mk (below_step (belU HB.out) hb)
          have z_HO163:=fun (h0_ : b 4 = true) => (show Kd.R (Kd.int .i64) 3 w12 w.heap.size (fun _ => True) v162 y161 from by first|exact (Kd.R_elder' (by (with_reducible repeat (first|apply Kd.R_alloc|apply Kd.R_drewN|apply Kd.R_drew));exact (Q_HO163 h0_)) (Kd.R_base ho13) hb)|exact Kd.R_mono (Kd.R_elder' (by (with_reducible repeat (first|apply Kd.R_alloc|apply Kd.R_drewN|apply Kd.R_drew));exact (Q_HO163 h0_)) (Kd.R_base ho13) hb) (fun _ h_ => by first|trivial|exact h_|exact h_.1))
          clear HO_4 HB;have HO_4:=n0_;have HO159:=n1_;have HB:=n2_;clear n0_ n1_ n2_ hb ho13
          obtain ⟨Ao14,co14,eo14⟩:=Kd.R_slice HO159.out;subst eo14
          obtain ⟨ado14,fo14,_⟩:=Kd.at_int (Kd.R_reads' HO159.out).2.2 0 (by decide) (by rw [Ny157.out];simp)
          cases fo14
          refine hK.out _ _ ⟨.slice (some ado14) y157.length co14,ado14,v162,adz_v162,v166,m2_,m6_,m9_,(by rw [ha.out];exact putSel_upk 0 hb_ rfl rfl rfl),(rU HO_4.out),(belU HB.out),fun _ => (rU HO159.out),fun _ => ⟨_,rfl⟩,z_HO163,Q_HA_HO163,fun h0_ => absurd ((hoff 8 (by kernel_rfl)).symm.trans h0_) (by decide),fun h0_ => absurd ((hoff 2 (by kernel_rfl)).symm.trans h0_) (by decide),Q_X6_,fun h0_ => absurd ((hoff 9 (by kernel_rfl)).symm.trans h0_) (by decide)⟩
         refine steps_cons ?_ ?_
         ·
          rintro b a w' ⟨v158,adz_v158,v162,adz_v162,v166,m2_,m6_,m9_,ha,Q_HO_4,Q_HB,Q_HO159,Q_HA_HO159,Q_HO163,Q_HA_HO163,Q_HO167,Q_X2_,Q_X6_,Q_X9_⟩ hb_ hon hoff
          refine ⟨_,rfl,fun K hK => ?_⟩
          have e21 : a.tmps[21]? = some (v158):=by rw [ha];exact putSel_on (e:=(0,21,v158)) 0 rfl rfl (hon 0 (by kernel_rfl)) rfl
          have e22 : a.tmps[22]? = some (.int .i64 x5_1):=by rw [ha];exact (putSel_off rfl).trans rfl
          replace ha:=Aside0.mk ha
          have HO_4:=Aside0.mk Q_HO_4
          have HB:=Aside0.mk Q_HB;have HO159:=Aside0.mk (Q_HO159 (hon 0 (by kernel_rfl)));have HA_HO159:=Aside0.mk (Q_HA_HO159 (hon 0 (by kernel_rfl)))
          obtain ⟨c_,hv_⟩:=HA_HO159.out
          rw [hv_] at e21
          refine value_ (w1:=w') (v:=.pointer (some (adz_v158.add (x5_1).toNat))) (by rfl) rfl ?_ ?_
          ·
           go_simp
           (try simp only [i64_w])
           try rfl
           all_goals (have zl0 : (⟨#[101,118,101,110]⟩ : ByteArray).size = 4:=rfl;have zl1 : (⟨#[101,118,101,114,121]⟩ : ByteArray).size = 5:=rfl;have zl2 : (⟨#[106,117,115,116]⟩ : ByteArray).size = 4:=rfl;have zl3 : (⟨#[109,111,115,116]⟩ : ByteArray).size = 4:=rfl;have zl4 : (⟨#[110,111]⟩ : ByteArray).size = 2:=rfl;have zl5 : (⟨#[115,111,109,101]⟩ : ByteArray).size = 4:=rfl;have zl6 : (⟨#[97,108,108,98,117,116]⟩ : ByteArray).size = 6:=rfl;have zl7 : (⟨#[97,116,108,101,97,115,116]⟩ : ByteArray).size = 7:=rfl;(try simp only [ByteArray.size_append,ByteArray.size_extract,zl0,zl1,zl2,zl3,zl4,zl5,zl6,zl7] at c28);(try simp only [ByteArray.size_append,ByteArray.size_extract,zl0,zl1,zl2,zl3,zl4,zl5,zl6,zl7] at c33);(try simp only [ByteArray.size_append,ByteArray.size_extract,zl0,zl1,zl2,zl3,zl4,zl5,zl6,zl7] at c37);(try simp only [ByteArray.size_append,ByteArray.size_extract,zl0,zl1,zl2,zl3,zl4,zl5,zl6,zl7]);omega)
          refine hK.out _ _ ⟨v158,adz_v158,v162,adz_v162,v166,(.pointer (some (adz_v158.add (x5_1).toNat))),m6_,m9_,(by rw [ha.out];exact putSel_upk 1 hb_ rfl rfl rfl),Q_HO_4,Q_HB,Q_HO159,Q_HA_HO159,Q_HO163,Q_HA_HO163,fun h0_ => absurd ((hoff 8 (by kernel_rfl)).symm.trans h0_) (by decide),fun _ => rfl,Q_X6_,fun h0_ => absurd ((hoff 9 (by kernel_rfl)).symm.trans h0_) (by decide)⟩
         refine steps_cons ?_ ?_
         ·
          rintro b a w' ⟨v158,adz_v158,v162,adz_v162,v166,m2_,m6_,m9_,ha,Q_HO_4,Q_HB,Q_HO159,Q_HA_HO159,Q_HO163,Q_HA_HO163,Q_HO167,Q_X2_,Q_X6_,Q_X9_⟩ hb_ hon hoff
          refine ⟨_,rfl,fun K hK => ?_⟩
          have e23 : a.tmps[23]? = some (m2_):=by rw [ha];exact putSel_on (e:=(2,23,m2_)) 1 rfl rfl (hon 2 (by kernel_rfl)) rfl
          rw [Q_X2_ (hon 2 (by kernel_rfl))] at e23
          replace ha:=Aside0.mk ha
          have HO_4:=Aside0.mk Q_HO_4
          have HB:=Aside0.mk Q_HB;have HO159:=Aside0.mk (Q_HO159 (hon 0 (by kernel_rfl)));have HA_HO159:=Aside0.mk (Q_HA_HO159 (hon 0 (by kernel_rfl)))
          obtain ⟨c_,hv_⟩:=HA_HO159.out;have hF_:=HO159.out
          rw [hv_] at hF_
          obtain ⟨ad_,ea_,hx_⟩:=Kd.at_int (Kd.R_reads' hF_).2.2 x5_1 (of_eq_true pi160) (of_eq_true qi160)
          cases ea_
          refine value_ (w1:=w') (v:=.int .i64 (rd y157 x5_1)) (by rfl) rfl ?_ ?_
          ·
           go_simp
           (try simp only [i64_w])
           try rfl
           all_goals (have zl0 : (⟨#[101,118,101,110]⟩ : ByteArray).size = 4:=rfl;have zl1 : (⟨#[101,118,101,114,121]⟩ : ByteArray).size = 5:=rfl;have zl2 : (⟨#[106,117,115,116]⟩ : ByteArray).size = 4:=rfl;have zl3 : (⟨#[109,111,115,116]⟩ : ByteArray).size = 4:=rfl;have zl4 : (⟨#[110,111]⟩ : ByteArray).size = 2:=rfl;have zl5 : (⟨#[115,111,109,101]⟩ : ByteArray).size = 4:=rfl;have zl6 : (⟨#[97,108,108,98,117,116]⟩ : ByteArray).size = 6:=rfl;have zl7 : (⟨#[97,116,108,101,97,115,116]⟩ : ByteArray).size = 7:=rfl;(try simp only [ByteArray.size_append,ByteArray.size_extract,zl0,zl1,zl2,zl3,zl4,zl5,zl6,zl7] at c28);(try simp only [ByteArray.size_append,ByteArray.size_extract,zl0,zl1,zl2,zl3,zl4,zl5,zl6,zl7] at c33);(try simp only [ByteArray.size_append,ByteArray.size_extract,zl0,zl1,zl2,zl3,zl4,zl5,zl6,zl7] at c37);(try simp only [ByteArray.size_append,ByteArray.size_extract,zl0,zl1,zl2,zl3,zl4,zl5,zl6,zl7]);omega)
          refine hK.out _ _ ⟨v158,adz_v158,v162,adz_v162,v166,m2_,m6_,m9_,(by rw [ha.out];exact putSel_upk 2 hb_ rfl rfl rfl),Q_HO_4,Q_HB,Q_HO159,Q_HA_HO159,Q_HO163,Q_HA_HO163,fun h0_ => absurd ((hoff 8 (by kernel_rfl)).symm.trans h0_) (by decide),Q_X2_,Q_X6_,fun h0_ => absurd ((hoff 9 (by kernel_rfl)).symm.trans h0_) (by decide)⟩
         refine steps_cons ?_ ?_
         ·
          rintro b a w' ⟨v158,adz_v158,v162,adz_v162,v166,m2_,m6_,m9_,ha,Q_HO_4,Q_HB,Q_HO159,Q_HA_HO159,Q_HO163,Q_HA_HO163,Q_HO167,Q_X2_,Q_X6_,Q_X9_⟩ hb_ hon hoff
          refine ⟨_,rfl,fun K hK => ?_⟩
          replace ha:=Aside0.mk ha
          have HO_4:=Aside0.mk Q_HO_4
          have HB:=Aside0.mk Q_HB
          refine Kd.R_lit_step (Kd.int .i64) _ 3 ?hg (N:=25) ?hd (xs:=([0,1,0,0,0] : List Int)) (inner:=[.int .i64 0,.int .i64 1,.int .i64 0,.int .i64 0,.int .i64 0]) (ok:=fun _ => True) (okp:=fun _ => True) ?hr ?hp (fun _ hk => hk) trivial (Below.refl _ _) (Nat.le_refl _) (by simp) ?_;(case hd => rfl);(case hg => rfl);(case hr => first|(go_simp;done)|(go_simp;rfl));(case hp => exact (Reps.one (show Kd.M (Kd.int .i64) _ _ _ 0 [.int .i64 0] from rfl) (Reps.one (show Kd.M (Kd.int .i64) _ _ _ 1 [.int .i64 1] from rfl) (Reps.one (show Kd.M (Kd.int .i64) _ _ _ 0 [.int .i64 0] from rfl) (Reps.one (show Kd.M (Kd.int .i64) _ _ _ 0 [.int .i64 0] from rfl) (Reps.one (show Kd.M (Kd.int .i64) _ _ _ 0 [.int .i64 0] from rfl) (Reps.none _ _)))))));intro v162 w12 ho13 hb hg_ hnew_;clear hg_ hnew_
          (first|rw [← Ny161.out] at ho13|(simp only [Int.reduceToNat] at ho13;rw [← Ny161.out] at ho13));have n0_:=Aside0.mk (Kd.R_below (rU HO_4.out) hb);have n1_:=Aside0.mk (Kd.R_lower ho13 (below_size (belU HB.out)));have n2_:=Aside0.mk (below_step (belU HB.out) hb)
          have z_HO159:=fun (h0_ : b 0 = true) => (show Kd.R (Kd.int .i64) 3 w12 w.heap.size (fun _ => True) v158 y157 from by first|exact (Kd.R_elder' (by (with_reducible repeat (first|apply Kd.R_alloc|apply Kd.R_drewN|apply Kd.R_drew));exact (Q_HO159 h0_)) (Kd.R_base ho13) hb)|exact Kd.R_mono (Kd.R_elder' (by (with_reducible repeat (first|apply Kd.R_alloc|apply Kd.R_drewN|apply Kd.R_drew));exact (Q_HO159 h0_)) (Kd.R_base ho13) hb) (fun _ h_ => by first|trivial|exact h_|exact h_.1))
          clear HO_4 HB;have HO_4:=n0_;have HO163:=n1_;have HB:=n2_;clear n0_ n1_ n2_ hb ho13
          obtain ⟨Ao14,co14,eo14⟩:=Kd.R_slice HO163.out;subst eo14
          obtain ⟨ado14,fo14,_⟩:=Kd.at_int (Kd.R_reads' HO163.out).2.2 0 (by decide) (by rw [Ny161.out];simp)
          cases fo14
          refine hK.out _ _ ⟨v158,adz_v158,.slice (some ado14) y161.length co14,ado14,v166,m2_,m6_,m9_,(by rw [ha.out];exact putSel_upk 3 hb_ rfl rfl rfl),(rU HO_4.out),(belU HB.out),z_HO159,Q_HA_HO159,fun _ => (rU HO163.out),fun _ => ⟨_,rfl⟩,fun h0_ => absurd ((hoff 8 (by kernel_rfl)).symm.trans h0_) (by decide),Q_X2_,fun h0_ => absurd ((hoff 6 (by kernel_rfl)).symm.trans h0_) (by decide),fun h0_ => absurd ((hoff 9 (by kernel_rfl)).symm.trans h0_) (by decide)⟩
         refine steps_cons ?_ ?_
         ·
          rintro b a w' ⟨v158,adz_v158,v162,adz_v162,v166,m2_,m6_,m9_,ha,Q_HO_4,Q_HB,Q_HO159,Q_HA_HO159,Q_HO163,Q_HA_HO163,Q_HO167,Q_X2_,Q_X6_,Q_X9_⟩ hb_ hon hoff
          refine ⟨_,rfl,fun K hK => ?_⟩
          have e25 : a.tmps[25]? = some (v162):=by rw [ha];exact putSel_on (e:=(4,25,v162)) 3 rfl rfl (hon 4 (by kernel_rfl)) rfl
          have e26 : a.tmps[26]? = some (.int .i64 x5_1):=by rw [ha];exact (putSel_off rfl).trans rfl
          replace ha:=Aside0.mk ha
          have HO_4:=Aside0.mk Q_HO_4
          have HB:=Aside0.mk Q_HB;have HO163:=Aside0.mk (Q_HO163 (hon 4 (by kernel_rfl)));have HA_HO163:=Aside0.mk (Q_HA_HO163 (hon 4 (by kernel_rfl)))
          obtain ⟨c_,hv_⟩:=HA_HO163.out
          rw [hv_] at e25
          refine value_ (w1:=w') (v:=.pointer (some (adz_v162.add (x5_1).toNat))) (by rfl) rfl ?_ ?_
          ·
           go_simp
           (try simp only [i64_w])
           try rfl
           all_goals (have zl0 : (⟨#[101,118,101,110]⟩ : ByteArray).size = 4:=rfl;have zl1 : (⟨#[101,118,101,114,121]⟩ : ByteArray).size = 5:=rfl;have zl2 : (⟨#[106,117,115,116]⟩ : ByteArray).size = 4:=rfl;have zl3 : (⟨#[109,111,115,116]⟩ : ByteArray).size = 4:=rfl;have zl4 : (⟨#[110,111]⟩ : ByteArray).size = 2:=rfl;have zl5 : (⟨#[115,111,109,101]⟩ : ByteArray).size = 4:=rfl;have zl6 : (⟨#[97,108,108,98,117,116]⟩ : ByteArray).size = 6:=rfl;have zl7 : (⟨#[97,116,108,101,97,115,116]⟩ : ByteArray).size = 7:=rfl;(try simp only [ByteArray.size_append,ByteArray.size_extract,zl0,zl1,zl2,zl3,zl4,zl5,zl6,zl7] at c28);(try simp only [ByteArray.size_append,ByteArray.size_extract,zl0,zl1,zl2,zl3,zl4,zl5,zl6,zl7] at c33);(try simp only [ByteArray.size_append,ByteArray.size_extract,zl0,zl1,zl2,zl3,zl4,zl5,zl6,zl7] at c37);(try simp only [ByteArray.size_append,ByteArray.size_extract,zl0,zl1,zl2,zl3,zl4,zl5,zl6,zl7]);omega)
          refine hK.out _ _ ⟨v158,adz_v158,v162,adz_v162,v166,m2_,(.pointer (some (adz_v162.add (x5_1).toNat))),m9_,(by rw [ha.out];exact putSel_upk 4 hb_ rfl rfl rfl),Q_HO_4,Q_HB,Q_HO159,Q_HA_HO159,Q_HO163,Q_HA_HO163,fun h0_ => absurd ((hoff 8 (by kernel_rfl)).symm.trans h0_) (by decide),Q_X2_,fun _ => rfl,fun h0_ => absurd ((hoff 9 (by kernel_rfl)).symm.trans h0_) (by decide)⟩
         refine steps_cons ?_ ?_
         ·
          rintro b a w' ⟨v158,adz_v158,v162,adz_v162,v166,m2_,m6_,m9_,ha,Q_HO_4,Q_HB,Q_HO159,Q_HA_HO159,Q_HO163,Q_HA_HO163,Q_HO167,Q_X2_,Q_X6_,Q_X9_⟩ hb_ hon hoff
          refine ⟨_,rfl,fun K hK => ?_⟩
          have e27 : a.tmps[27]? = some (m6_):=by rw [ha];exact putSel_on (e:=(6,27,m6_)) 4 rfl rfl (hon 6 (by kernel_rfl)) rfl
          rw [Q_X6_ (hon 6 (by kernel_rfl))] at e27
          replace ha:=Aside0.mk ha
          have HO_4:=Aside0.mk Q_HO_4
          have HB:=Aside0.mk Q_HB;have HO163:=Aside0.mk (Q_HO163 (hon 4 (by kernel_rfl)));have HA_HO163:=Aside0.mk (Q_HA_HO163 (hon 4 (by kernel_rfl)))
          obtain ⟨c_,hv_⟩:=HA_HO163.out;have hF_:=HO163.out
          rw [hv_] at hF_
          obtain ⟨ad_,ea_,hx_⟩:=Kd.at_int (Kd.R_reads' hF_).2.2 x5_1 (of_eq_true pi164) (of_eq_true qi164)
          cases ea_
          refine value_ (w1:=w') (v:=.int .i64 (rd y161 x5_1)) (by rfl) rfl ?_ ?_
          ·
           go_simp
           (try simp only [i64_w])
           try rfl
           all_goals (have zl0 : (⟨#[101,118,101,110]⟩ : ByteArray).size = 4:=rfl;have zl1 : (⟨#[101,118,101,114,121]⟩ : ByteArray).size = 5:=rfl;have zl2 : (⟨#[106,117,115,116]⟩ : ByteArray).size = 4:=rfl;have zl3 : (⟨#[109,111,115,116]⟩ : ByteArray).size = 4:=rfl;have zl4 : (⟨#[110,111]⟩ : ByteArray).size = 2:=rfl;have zl5 : (⟨#[115,111,109,101]⟩ : ByteArray).size = 4:=rfl;have zl6 : (⟨#[97,108,108,98,117,116]⟩ : ByteArray).size = 6:=rfl;have zl7 : (⟨#[97,116,108,101,97,115,116]⟩ : ByteArray).size = 7:=rfl;(try simp only [ByteArray.size_append,ByteArray.size_extract,zl0,zl1,zl2,zl3,zl4,zl5,zl6,zl7] at c28);(try simp only [ByteArray.size_append,ByteArray.size_extract,zl0,zl1,zl2,zl3,zl4,zl5,zl6,zl7] at c33);(try simp only [ByteArray.size_append,ByteArray.size_extract,zl0,zl1,zl2,zl3,zl4,zl5,zl6,zl7] at c37);(try simp only [ByteArray.size_append,ByteArray.size_extract,zl0,zl1,zl2,zl3,zl4,zl5,zl6,zl7]);omega)
          refine hK.out _ _ ⟨v158,adz_v158,v162,adz_v162,v166,m2_,m6_,m9_,(by rw [ha.out];exact putSel_upk 5 hb_ rfl rfl rfl),Q_HO_4,Q_HB,Q_HO159,Q_HA_HO159,Q_HO163,Q_HA_HO163,fun h0_ => absurd ((hoff 8 (by kernel_rfl)).symm.trans h0_) (by decide),Q_X2_,Q_X6_,fun h0_ => absurd ((hoff 9 (by kernel_rfl)).symm.trans h0_) (by decide)⟩
         refine steps_cons ?_ ?_
         ·
          rintro b a w' ⟨v158,adz_v158,v162,adz_v162,v166,m2_,m6_,m9_,ha,Q_HO_4,Q_HB,Q_HO159,Q_HA_HO159,Q_HO163,Q_HA_HO163,Q_HO167,Q_X2_,Q_X6_,Q_X9_⟩ hb_ hon hoff
          refine ⟨_,rfl,fun K hK => ?_⟩
          have e24 : a.tmps[24]? = some (.int .i64 (rd y157 x5_1)):=by rw [ha];exact putSel_on (e:=(3,24,.int .i64 (rd y157 x5_1))) 2 rfl rfl (hon 3 (by kernel_rfl)) rfl
          have e28 : a.tmps[28]? = some (.int .i64 (rd y161 x5_1)):=by rw [ha];exact putSel_on (e:=(7,28,.int .i64 (rd y161 x5_1))) 5 rfl rfl (hon 7 (by kernel_rfl)) rfl
          replace ha:=Aside0.mk ha
          have HO_4:=Aside0.mk Q_HO_4
          have HB:=Aside0.mk Q_HB;have HO159:=Aside0.mk (Q_HO159 (hon 0 (by kernel_rfl)));have HA_HO159:=Aside0.mk (Q_HA_HO159 (hon 0 (by kernel_rfl)));have HO163:=Aside0.mk (Q_HO163 (hon 4 (by kernel_rfl)));have HA_HO163:=Aside0.mk (Q_HA_HO163 (hon 4 (by kernel_rfl)))
          obtain ⟨co19,eo19⟩:=HA_HO159.out;clear HA_HO159;subst eo19
          obtain ⟨co20,eo20⟩:=HA_HO163.out;clear HA_HO163;subst eo20
          refine goes_ Try.func69 (by kernel_rfl) rfl #[.int .i64 (rd y157 x5_1),.int .i64 (rd y161 x5_1)] (by rfl) rfl rfl (by first|(simp only [List.map_toArray,List.map_cons,List.map_nil,Act.eval,Array.getD_eq_getD_getElem?,Option.getD_some,e24,e28];done)|(simp only [List.map_toArray,List.map_cons,List.map_nil,Act.eval,Array.getD_eq_getD_getElem?,Option.getD_some,e24,e28];rfl)) ?_
          with_reducible refine (spec_l1Made.calls k1 (rd y157 x5_1) (rd y161 x5_1) t165 _ A9.out).mono ?_
          rintro e w21 ⟨v166,rfl,ho0,hb⟩
          refine ⟨_,rfl,?_⟩;have n0_:=Aside0.mk (Kd.R_below (rU HO_4.out) hb);have n1_:=Aside0.mk (Kd.R_elder' (rU HO159.out) (Kd.R_base ho0) hb);have n2_:=Aside0.mk (Kd.R_elder' (rU HO163.out) (Kd.R_base ho0) hb);have n3_:=Aside0.mk (Kd.R_lower (Kd.R_new' (Kd.R_new' ho0 (Kd.R_lt (rU HO159.out))) (Kd.R_lt (rU HO163.out))) (below_size (belU HB.out)));have n4_:=Aside0.mk (below_step (belU HB.out) hb);clear HO_4 HO159 HO163 HB;have HO_4:=n0_;have HO159:=n1_;have HO163:=n2_;have HO167:=n3_;have HB:=n4_;clear n0_ n1_ n2_ n3_ n4_
          (try clear hb)
          (try clear hb2)
          (try clear hk)
          (try clear hi)
          (try clear ho0)
          refine hK.out _ _ ⟨.slice (some adz_v158) y157.length co19,adz_v158,.slice (some adz_v162) y161.length co20,adz_v162,v166,m2_,m6_,m9_,(by rw [ha.out];exact putSel_upk 6 hb_ rfl rfl rfl),(rU HO_4.out),(belU HB.out),fun _ => (by (with_reducible repeat (first|apply Kd.R_alloc|apply Kd.R_drewN|apply Kd.R_drew));exact Kd.R_mono HO159.out (fun _ hk => hk.1)),fun _ => ⟨_,rfl⟩,fun _ => (by (with_reducible repeat (first|apply Kd.R_alloc|apply Kd.R_drewN|apply Kd.R_drew));exact Kd.R_mono HO163.out (fun _ hk => hk.1)),fun _ => ⟨_,rfl⟩,fun _ => (by (with_reducible repeat (first|apply Kd.R_alloc|apply Kd.R_drewN|apply Kd.R_drew));exact Kd.R_mono HO167.out (fun _ _ => trivial)),Q_X2_,Q_X6_,fun h0_ => absurd ((hoff 9 (by kernel_rfl)).symm.trans h0_) (by decide)⟩
         refine steps_cons ?_ ?_
         ·
          rintro b a w' ⟨v158,adz_v158,v162,adz_v162,v166,m2_,m6_,m9_,ha,Q_HO_4,Q_HB,Q_HO159,Q_HA_HO159,Q_HO163,Q_HA_HO163,Q_HO167,Q_X2_,Q_X6_,Q_X9_⟩ hb_ hon hoff
          refine ⟨_,rfl,fun K hK => ?_⟩
          have e29 : a.tmps[29]? = some (v166):=by rw [ha];exact putSel_on (e:=(8,29,v166)) 6 rfl rfl (hon 8 (by kernel_rfl)) rfl
          replace ha:=Aside0.mk ha
          have HO_4:=Aside0.mk Q_HO_4
          have HB:=Aside0.mk Q_HB;have HO159:=Aside0.mk (Q_HO159 (hon 0 (by kernel_rfl)));have HA_HO159:=Aside0.mk (Q_HA_HO159 (hon 0 (by kernel_rfl)));have HO163:=Aside0.mk (Q_HO163 (hon 4 (by kernel_rfl)));have HA_HO163:=Aside0.mk (Q_HA_HO163 (hon 4 (by kernel_rfl)));have HO167:=Aside0.mk (Q_HO167 (hon 8 (by kernel_rfl)))
          refine value_ (w1:=w') (v:=v166) (by rfl) rfl ?_ ?_
          ·
           go_simp
           (try simp only [i64_w])
           try rfl
           all_goals (have zl0 : (⟨#[101,118,101,110]⟩ : ByteArray).size = 4:=rfl;have zl1 : (⟨#[101,118,101,114,121]⟩ : ByteArray).size = 5:=rfl;have zl2 : (⟨#[106,117,115,116]⟩ : ByteArray).size = 4:=rfl;have zl3 : (⟨#[109,111,115,116]⟩ : ByteArray).size = 4:=rfl;have zl4 : (⟨#[110,111]⟩ : ByteArray).size = 2:=rfl;have zl5 : (⟨#[115,111,109,101]⟩ : ByteArray).size = 4:=rfl;have zl6 : (⟨#[97,108,108,98,117,116]⟩ : ByteArray).size = 6:=rfl;have zl7 : (⟨#[97,116,108,101,97,115,116]⟩ : ByteArray).size = 7:=rfl;(try simp only [ByteArray.size_append,ByteArray.size_extract,zl0,zl1,zl2,zl3,zl4,zl5,zl6,zl7] at c28);(try simp only [ByteArray.size_append,ByteArray.size_extract,zl0,zl1,zl2,zl3,zl4,zl5,zl6,zl7] at c33);(try simp only [ByteArray.size_append,ByteArray.size_extract,zl0,zl1,zl2,zl3,zl4,zl5,zl6,zl7] at c37);(try simp only [ByteArray.size_append,ByteArray.size_extract,zl0,zl1,zl2,zl3,zl4,zl5,zl6,zl7]);omega)
          refine hK.out _ _ ⟨v158,adz_v158,v162,adz_v162,v166,m2_,m6_,(v166),(by rw [ha.out];exact putSel_upk 7 hb_ rfl rfl rfl),Q_HO_4,Q_HB,Q_HO159,Q_HA_HO159,Q_HO163,Q_HA_HO163,Q_HO167,Q_X2_,Q_X6_,fun _ => rfl⟩
         refine steps_cons ?_ ?_
         ·
          rintro b a w' ⟨v158,adz_v158,v162,adz_v162,v166,m2_,m6_,m9_,ha,Q_HO_4,Q_HB,Q_HO159,Q_HA_HO159,Q_HO163,Q_HA_HO163,Q_HO167,Q_X2_,Q_X6_,Q_X9_⟩ hb_ hon hoff
          refine ⟨_,rfl,fun K hK => ?_⟩
          replace ha:=Aside0.mk ha
          have HO_4:=Aside0.mk Q_HO_4
          have HB:=Aside0.mk Q_HB;have HO159:=Aside0.mk (Q_HO159 (hon 0 (by kernel_rfl)));have HA_HO159:=Aside0.mk (Q_HA_HO159 (hon 0 (by kernel_rfl)));have HO163:=Aside0.mk (Q_HO163 (hon 4 (by kernel_rfl)));have HA_HO163:=Aside0.mk (Q_HA_HO163 (hon 4 (by kernel_rfl)));have HO167:=Aside0.mk (Q_HO167 (hon 8 (by kernel_rfl)))
          refine value_ (w1:=w') (v:=.bool true) (by rfl) rfl ?_ ?_
          ·
           go_simp
           (try simp only [i64_w])
           try rfl
           all_goals (have zl0 : (⟨#[101,118,101,110]⟩ : ByteArray).size = 4:=rfl;have zl1 : (⟨#[101,118,101,114,121]⟩ : ByteArray).size = 5:=rfl;have zl2 : (⟨#[106,117,115,116]⟩ : ByteArray).size = 4:=rfl;have zl3 : (⟨#[109,111,115,116]⟩ : ByteArray).size = 4:=rfl;have zl4 : (⟨#[110,111]⟩ : ByteArray).size = 2:=rfl;have zl5 : (⟨#[115,111,109,101]⟩ : ByteArray).size = 4:=rfl;have zl6 : (⟨#[97,108,108,98,117,116]⟩ : ByteArray).size = 6:=rfl;have zl7 : (⟨#[97,116,108,101,97,115,116]⟩ : ByteArray).size = 7:=rfl;(try simp only [ByteArray.size_append,ByteArray.size_extract,zl0,zl1,zl2,zl3,zl4,zl5,zl6,zl7] at c28);(try simp only [ByteArray.size_append,ByteArray.size_extract,zl0,zl1,zl2,zl3,zl4,zl5,zl6,zl7] at c33);(try simp only [ByteArray.size_append,ByteArray.size_extract,zl0,zl1,zl2,zl3,zl4,zl5,zl6,zl7] at c37);(try simp only [ByteArray.size_append,ByteArray.size_extract,zl0,zl1,zl2,zl3,zl4,zl5,zl6,zl7]);omega)
          refine hK.out _ _ ⟨v158,adz_v158,v162,adz_v162,v166,m2_,m6_,m9_,(by rw [ha.out];exact putSel_upk 8 hb_ rfl rfl rfl),Q_HO_4,Q_HB,Q_HO159,Q_HA_HO159,Q_HO163,Q_HA_HO163,Q_HO167,Q_X2_,Q_X6_,Q_X9_⟩
         exact steps_nil
        rintro b a w19 hall ⟨v158,adz_v158,v162,adz_v162,v166,m2_,m6_,m9_,ha,Q_HO_4,Q_HB,Q_HO159,Q_HA_HO159,Q_HO163,Q_HA_HO163,Q_HO167,Q_X2_,Q_X6_,Q_X9_⟩;clear HB HO_4
        have hb0_:=hall 0 (by kernel_rfl)
        have hb2_:=hall 2 (by kernel_rfl)
        have hb3_:=hall 3 (by kernel_rfl)
        have hb4_:=hall 4 (by kernel_rfl)
        have hb6_:=hall 6 (by kernel_rfl)
        have hb7_:=hall 7 (by kernel_rfl)
        have hb8_:=hall 8 (by kernel_rfl)
        have hb9_:=hall 9 (by kernel_rfl)
        have hb10_:=hall 10 (by kernel_rfl);subst ha
        obtain rfl:=Q_X2_ hb2_
        obtain rfl:=Q_X6_ hb6_
        obtain rfl:=Q_X9_ hb9_
        simp only [putSel,hb0_,hb2_,hb3_,hb4_,hb6_,hb7_,hb8_,hb9_,hb10_,if_true,Act.put,List.setIfInBounds_toArray,List.set_cons_zero,List.set_cons_succ]
        have HO_4:=Aside0.mk Q_HO_4;clear Q_HO_4
        have HB:=Aside0.mk Q_HB;clear Q_HB;have HO159:=Aside0.mk (Q_HO159 hb0_);clear Q_HO159;have HA_HO159:=Aside0.mk (Q_HA_HO159 hb0_);clear Q_HA_HO159;have HO163:=Aside0.mk (Q_HO163 hb4_);clear Q_HO163;have HA_HO163:=Aside0.mk (Q_HA_HO163 hb4_);clear Q_HA_HO163;have HO167:=Aside0.mk (Q_HO167 hb8_);clear Q_HO167 hall hb0_ hb2_ hb3_ hb4_ hb6_ hb7_ hb8_ hb9_ hb10_
        obtain ⟨co20,eo20⟩:=HA_HO159.out;clear HA_HO159;subst eo20
        obtain ⟨co21,eo21⟩:=HA_HO163.out;clear HA_HO163;subst eo21
        try go_wp2
        go_ret2
        exact ⟨_,by first|rfl|(simp [errW_none,errW_some] <;> rfl)|(simp [*,errW_none,errW_some] <;> rfl),by (with_reducible repeat (first|apply Kd.R_alloc|apply Kd.R_drewN|apply Kd.R_drew));exact Kd.R_mono HO167.out (fun _ hk => trivial),belU HB.out⟩
       ·
        rw [if_neg c8] at H
        exact absurd H (by simp)
      ·
       rw [if_neg c7] at H
       exact absurd H (by simp)
     ·
      rw [if_neg c6] at H
      have c6b0 : (a0.toList == (rdOf ByteArray.empty y153 x5_1).toList) = false:=beq_eq_false_iff_ne.mpr c6
      have c6b1 : (a0.toList != (rdOf ByteArray.empty y153 x5_1).toList) = true:=bne_iff_ne.mpr c6
      have H':=Aside0.mk H;clear H
      obtain ⟨Ao22,co22,eo22⟩:=Kd.R_slice HO_4.out;subst eo22
      have p156 : 0 ≤ (x5_1 : Int):=of_decide_eq_true (by first|(with_reducible assumption)|assumption)
      have q156 : x5_1 < (y153.length : Int):=of_decide_eq_true (by first|(with_reducible assumption)|assumption)
      obtain ⟨ad156,e156,hx156_0⟩:=Kd.at_string (Kd.R_reads' HO_4.out).2.2 x5_1 p156 q156
      cases e156
      replace p156:=eq_true p156
      replace q156:=eq_true q156
      go_wp2
      go_roundg k1
      case measure => have:=HK1.out;omega
      case rel => exact ⟨(wrap64 (x5_1 + 1)),(by first|rfl|(simp;done)|(simp [*];done)),H',⟨by have:=HK1.out;omega⟩,⟨rU HO_4.out⟩,⟨belU HB.out⟩⟩
    ·
     rw [if_neg c5] at H
     exact absurd H (by simp)
   ·
    rw [if_neg c4] at H
    have c4b0 : decide (x5_1 < (y153.length : Int)) = false:=decide_eq_false c4;clear c4
    have H':=Aside0.mk H;clear H
    obtain ⟨Ao23,co23,eo23⟩:=Kd.R_slice HO_4.out;subst eo23
    go_wp2
    go_loopg [6] k1 (fun kq v6 w' => ∃ (x6_2 : Int),v6 = .int .i64 x6_2 ∧ Aside0 (spec_NamedTriangle.l1 kq a0 x6_2 = some (r1,r2)) ∧ Aside0 (kq ≤ k1) ∧ Aside0 (Below w.heap.size w w'))
    case atStart => exact ⟨(0),(by first|rfl|(simp;done)|(simp [*];done)),H',⟨Nat.le_refl _⟩,⟨belU HB.out⟩⟩
    case round =>
     clear H'
     try clear p1
     try clear q1
     try clear hx1
     try clear qi1
     try clear p2
     try clear c4
     try clear c4b0
     try clear c5
     try clear c5b0
     try clear c6
     try clear c6b0
     try clear c6b1
     try clear p6
     try clear c7
     try clear c7b0
     try clear c8
     try clear c8b0
     try clear p15
     try clear q15
     try clear hx15
     try clear qi16
     try clear hx156_0
     try clear p156
     try clear p2
     try clear q156
     obtain ⟨x6_2,rfl,HA,HK2,HB⟩:=hrel
     cases gk with
     | zero => exact absurd HA.out (by simp [spec_NamedTriangle.l1])
     | succ k2 =>
      have H:=HA.out;clear HA
      simp only [spec_NamedTriangle.l1] at H
      by_cases c24 : x6_2 ≤ 5
      ·
       rw [if_pos c24] at H
       have c24b0 : decide (x6_2 ≤ 5) = true:=decide_eq_true c24;clear c24
       replace H:=Option.bind_eq_some_iff.mp H
       obtain ⟨t171,A250,H⟩:=H
       replace H : (if 7 + t171.size ≤ 9223372036854775807 then (if a0.toList = ((⟨#[97,116,108,101,97,115,116]⟩ : ByteArray) ++ t171).toList then (spec_NamedTriangle.j2 k2 a0 x6_2 t171 (decide (x6_2 > 0))) else (spec_NamedTriangle.j2 k2 a0 x6_2 t171 false)) else (none)) = some (r1,r2):=H
       have A25:=Aside0.mk A250;clear A250
       have HC26:=Aside0.mk H;clear H
       go_upto_region 11 with (first|((with_reducible refine gate_callee (f:=70) rfl ?_);refine goesL_ (some 35) rfl rfl Try.func70 (by kernel_rfl) rfl #[.int .i64 x6_2] rfl (by (try simp only [List.map_toArray,List.map_cons,List.map_nil]);first|done|rfl|(simp only [List.length_drop,List.length_take];rfl)) ?_;(with_reducible refine (spec_l1Number.calls k2 x6_2 t171 _ A25.out).mono ?_);rintro e w27 ⟨rfl,hb⟩;refine ⟨_,rfl,?_⟩;have n0_:=Aside0.mk (below_step (belU HB.out) hb);clear HB;have HB:=n0_;clear n0_;(try clear hb);(try clear hb2);(try clear hk);(try clear hi)))
       (try simp only [Act.put,List.setIfInBounds_toArray,List.set_cons_zero,List.set_cons_succ])
       go_cut [36] (fun v36 wc => ∃ (kq : Nat) (x36_25 : Bool),v36 = .bool x36_25 ∧ Aside0 (spec_NamedTriangle.j2 kq a0 x6_2 t171 x36_25 = some (r1,r2)) ∧ Aside0 (kq ≤ k2) ∧ Aside0 (Below w.heap.size w wc))
       case first =>
        have H:=HC26.out;clear HC26
        by_cases c28 : 7 + t171.size ≤ 9223372036854775807
        ·
         rw [if_pos c28] at H
         have c28b0:=eq_true c28
         have c28b1 : decide (7 + t171.size ≤ 9223372036854775807) = true:=decide_eq_true c28
         try have c28b2 : (9223372036854775807 < 7 + t171.size) = False:=eq_false (Nat.not_lt.2 c28)
         have zl0 : (⟨#[101,118,101,110]⟩ : ByteArray).size = 4:=rfl
         have zl1 : (⟨#[101,118,101,114,121]⟩ : ByteArray).size = 5:=rfl
         have zl2 : (⟨#[106,117,115,116]⟩ : ByteArray).size = 4:=rfl
         have zl3 : (⟨#[109,111,115,116]⟩ : ByteArray).size = 4:=rfl
         have zl4 : (⟨#[110,111]⟩ : ByteArray).size = 2:=rfl
         have zl5 : (⟨#[115,111,109,101]⟩ : ByteArray).size = 4:=rfl
         have zl6 : (⟨#[97,108,108,98,117,116]⟩ : ByteArray).size = 6:=rfl
         have zl7 : (⟨#[97,116,108,101,97,115,116]⟩ : ByteArray).size = 7:=rfl;have c28n:=c28
         (try simp only [ByteArray.size_append,zl0,zl1,zl2,zl3,zl4,zl5,zl6,zl7,Nat.reduceAdd] at c28n)
         (try have c28n0:=eq_true c28n)
         (try have c28n1:=decide_eq_true c28n)
         (try have c28n2:=eq_false (Nat.not_lt.2 c28n));clear zl0 zl1 zl2 zl3 zl4 zl5 zl6 zl7
         by_cases c29 : a0.toList = ((⟨#[97,116,108,101,97,115,116]⟩ : ByteArray) ++ t171).toList
         ·
          rw [if_pos c29] at H
          have c29b0 : (a0.toList == ((⟨#[97,116,108,101,97,115,116]⟩ : ByteArray) ++ t171).toList) = true:=beq_iff_eq.mpr c29
          have c29b1 : (a0.toList != ((⟨#[97,116,108,101,97,115,116]⟩ : ByteArray) ++ t171).toList) = false:=bne_eq_false_iff_eq.mpr c29;clear c29
          (first|rw [c29b0]|(simp only [i64_w,i32_w];rw [c29b0])|skip)
          have H':=Aside0.mk H;clear H
          go_wp2
          go_meet
          case rel => exact ⟨_,(decide (x6_2 > 0)),(by first|rfl|(simp;done)|(simp [*];done)),H',⟨by have:=HK1.out;have:=HK2.out;first|omega|exact Nat.le_refl _⟩,⟨belU HB.out⟩⟩
         ·
          rw [if_neg c29] at H
          have c29b0 : (a0.toList == ((⟨#[97,116,108,101,97,115,116]⟩ : ByteArray) ++ t171).toList) = false:=beq_eq_false_iff_ne.mpr c29
          have c29b1 : (a0.toList != ((⟨#[97,116,108,101,97,115,116]⟩ : ByteArray) ++ t171).toList) = true:=bne_iff_ne.mpr c29
          (first|rw [c29b0]|(simp only [i64_w,i32_w];rw [c29b0])|skip)
          have H':=Aside0.mk H;clear H
          go_wp2
          go_meet
          case rel => exact ⟨_,(false),(by first|rfl|(simp;done)|(simp [*];done)),H',⟨by have:=HK1.out;have:=HK2.out;first|omega|exact Nat.le_refl _⟩,⟨belU HB.out⟩⟩
        ·
         rw [if_neg c28] at H
         exact absurd H (by simp)
       case rest =>
        clear HC26
        try clear p1
        try clear q1
        try clear hx1
        try clear qi1
        try clear c2
        try clear p2
        try clear c4
        try clear c4b0
        try clear c5
        try clear c5b0
        try clear c6
        try clear c6b0
        try clear c6b1
        try clear p6
        try clear c7
        try clear c7b0
        try clear c8
        try clear c8b0
        try clear p15
        try clear q15
        try clear hx15
        try clear qi16
        try clear c24
        try clear c24b0
        try clear c28
        try clear c28b0
        try clear c28b1
        try clear c28b2
        try clear c29
        try clear c29b0
        try clear c29b1
        try clear hx156_0
        try clear p1
        try clear p15
        try clear p156
        try clear p2
        try clear p6
        try clear q1
        try clear q15
        try clear q156
        obtain ⟨kq,x36_25,rfl,HA,HJ25,HB⟩:=hcut
        cases kq with
        | zero => exact absurd HA.out (by simp [spec_NamedTriangle.j2])
        | succ kj25 =>
         have H:=HA.out;clear HA
         simp only [spec_NamedTriangle.j2] at H
         by_cases c30 : x36_25 = true
         ·
          subst c30
          have H1 : ((spec_l1Made.f kj25 1 x6_2).bind fun t172 => (some (t172,true))) = some (r1,r2):=by rw [if_pos rfl] at H;exact H
          clear H;have H:=H1;clear H1
          replace H:=Option.bind_eq_some_iff.mp H
          obtain ⟨t172,A310,H⟩:=H
          replace H : (some (t172,true)) = some (r1,r2):=H
          have A31:=Aside0.mk A310;clear A310
          simp only [Option.some.injEq,Prod.mk.injEq] at H
          obtain ⟨rfl,rfl⟩:=H
          go_wp2_with (first|((with_reducible refine gate_callee (f:=69) rfl ?_);refine goesL_ (some 46) rfl rfl Try.func69 (by kernel_rfl) rfl #[.int .i64 1,.int .i64 x6_2] rfl (by (try simp only [List.map_toArray,List.map_cons,List.map_nil]);first|done|rfl|(simp only [List.length_drop,List.length_take];rfl)) ?_;(with_reducible refine (spec_l1Made.calls kj25 1 x6_2 t172 _ A31.out).mono ?_);rintro e w32 ⟨v173,rfl,ho0,hb⟩;refine ⟨_,rfl,?_⟩;have n0_:=Aside0.mk (Kd.R_lower ho0 (below_size (belU HB.out)));have n1_:=Aside0.mk (below_step (belU HB.out) hb);clear HB;have HO174:=n0_;have HB:=n1_;clear n0_ n1_;(try clear hb);(try clear hb2);(try clear hk);(try clear hi);(try clear ho0)))
          go_ret2
          exact ⟨_,by first|rfl|(simp [errW_none,errW_some] <;> rfl)|(simp [*,errW_none,errW_some] <;> rfl),rU HO174.out,belU HB.out⟩
         ·
          replace c30:=Bool.eq_false_iff.mpr c30;subst c30
          have H1 : (if 4 + t171.size ≤ 9223372036854775807 then (if a0.toList = ((⟨#[106,117,115,116]⟩ : ByteArray) ++ t171).toList then ((spec_l1Made.f kj25 2 x6_2).bind fun t175 => (some (t175,true))) else (if 6 + t171.size ≤ 9223372036854775807 then (if a0.toList = ((⟨#[97,108,108,98,117,116]⟩ : ByteArray) ++ t171).toList then ((spec_l1Made.f kj25 5 x6_2).bind fun t178 => (some (t178,true))) else (spec_NamedTriangle.l1 kj25 a0 (wrap64 (x6_2 + 1)))) else (none))) else (none)) = some (r1,r2):=by rw [if_neg (show ¬ (false = true) by decide)] at H;exact H
          clear H;have H:=H1;clear H1
          by_cases c33 : 4 + t171.size ≤ 9223372036854775807
          ·
           rw [if_pos c33] at H
           have c33b0:=eq_true c33
           have c33b1 : decide (4 + t171.size ≤ 9223372036854775807) = true:=decide_eq_true c33
           try have c33b2 : (9223372036854775807 < 4 + t171.size) = False:=eq_false (Nat.not_lt.2 c33)
           have zl0 : (⟨#[101,118,101,110]⟩ : ByteArray).size = 4:=rfl
           have zl1 : (⟨#[101,118,101,114,121]⟩ : ByteArray).size = 5:=rfl
           have zl2 : (⟨#[106,117,115,116]⟩ : ByteArray).size = 4:=rfl
           have zl3 : (⟨#[109,111,115,116]⟩ : ByteArray).size = 4:=rfl
           have zl4 : (⟨#[110,111]⟩ : ByteArray).size = 2:=rfl
           have zl5 : (⟨#[115,111,109,101]⟩ : ByteArray).size = 4:=rfl
           have zl6 : (⟨#[97,108,108,98,117,116]⟩ : ByteArray).size = 6:=rfl
           have zl7 : (⟨#[97,116,108,101,97,115,116]⟩ : ByteArray).size = 7:=rfl;have c33n:=c33
           (try simp only [ByteArray.size_append,zl0,zl1,zl2,zl3,zl4,zl5,zl6,zl7,Nat.reduceAdd] at c33n)
           (try have c33n0:=eq_true c33n)
           (try have c33n1:=decide_eq_true c33n)
           (try have c33n2:=eq_false (Nat.not_lt.2 c33n));clear zl0 zl1 zl2 zl3 zl4 zl5 zl6 zl7
           by_cases c34 : a0.toList = ((⟨#[106,117,115,116]⟩ : ByteArray) ++ t171).toList
           ·
            rw [if_pos c34] at H
            have c34b0 : (a0.toList == ((⟨#[106,117,115,116]⟩ : ByteArray) ++ t171).toList) = true:=beq_iff_eq.mpr c34
            have c34b1 : (a0.toList != ((⟨#[106,117,115,116]⟩ : ByteArray) ++ t171).toList) = false:=bne_eq_false_iff_eq.mpr c34;clear c34
            replace H:=Option.bind_eq_some_iff.mp H
            obtain ⟨t175,A350,H⟩:=H
            replace H : (some (t175,true)) = some (r1,r2):=H
            have A35:=Aside0.mk A350;clear A350
            simp only [Option.some.injEq,Prod.mk.injEq] at H
            obtain ⟨rfl,rfl⟩:=H
            go_wp2_with (first|((with_reducible refine gate_callee (f:=69) rfl ?_);refine goesL_ (some 53) rfl rfl Try.func69 (by kernel_rfl) rfl #[.int .i64 2,.int .i64 x6_2] rfl (by (try simp only [List.map_toArray,List.map_cons,List.map_nil]);first|done|rfl|(simp only [List.length_drop,List.length_take];rfl)) ?_;(with_reducible refine (spec_l1Made.calls kj25 2 x6_2 t175 _ A35.out).mono ?_);rintro e w36 ⟨v176,rfl,ho0,hb⟩;refine ⟨_,rfl,?_⟩;have n0_:=Aside0.mk (Kd.R_lower ho0 (below_size (belU HB.out)));have n1_:=Aside0.mk (below_step (belU HB.out) hb);clear HB;have HO177:=n0_;have HB:=n1_;clear n0_ n1_;(try clear hb);(try clear hb2);(try clear hk);(try clear hi);(try clear ho0)))
            go_ret2
            exact ⟨_,by first|rfl|(simp [errW_none,errW_some] <;> rfl)|(simp [*,errW_none,errW_some] <;> rfl),rU HO177.out,belU HB.out⟩
           ·
            rw [if_neg c34] at H
            have c34b0 : (a0.toList == ((⟨#[106,117,115,116]⟩ : ByteArray) ++ t171).toList) = false:=beq_eq_false_iff_ne.mpr c34
            have c34b1 : (a0.toList != ((⟨#[106,117,115,116]⟩ : ByteArray) ++ t171).toList) = true:=bne_iff_ne.mpr c34
            by_cases c37 : 6 + t171.size ≤ 9223372036854775807
            ·
             rw [if_pos c37] at H
             have c37b0:=eq_true c37
             have c37b1 : decide (6 + t171.size ≤ 9223372036854775807) = true:=decide_eq_true c37
             try have c37b2 : (9223372036854775807 < 6 + t171.size) = False:=eq_false (Nat.not_lt.2 c37)
             have zl0 : (⟨#[101,118,101,110]⟩ : ByteArray).size = 4:=rfl
             have zl1 : (⟨#[101,118,101,114,121]⟩ : ByteArray).size = 5:=rfl
             have zl2 : (⟨#[106,117,115,116]⟩ : ByteArray).size = 4:=rfl
             have zl3 : (⟨#[109,111,115,116]⟩ : ByteArray).size = 4:=rfl
             have zl4 : (⟨#[110,111]⟩ : ByteArray).size = 2:=rfl
             have zl5 : (⟨#[115,111,109,101]⟩ : ByteArray).size = 4:=rfl
             have zl6 : (⟨#[97,108,108,98,117,116]⟩ : ByteArray).size = 6:=rfl
             have zl7 : (⟨#[97,116,108,101,97,115,116]⟩ : ByteArray).size = 7:=rfl;have c37n:=c37
             (try simp only [ByteArray.size_append,zl0,zl1,zl2,zl3,zl4,zl5,zl6,zl7,Nat.reduceAdd] at c37n)
             (try have c37n0:=eq_true c37n)
             (try have c37n1:=decide_eq_true c37n)
             (try have c37n2:=eq_false (Nat.not_lt.2 c37n));clear zl0 zl1 zl2 zl3 zl4 zl5 zl6 zl7
             by_cases c38 : a0.toList = ((⟨#[97,108,108,98,117,116]⟩ : ByteArray) ++ t171).toList
             ·
              rw [if_pos c38] at H
              have c38b0 : (a0.toList == ((⟨#[97,108,108,98,117,116]⟩ : ByteArray) ++ t171).toList) = true:=beq_iff_eq.mpr c38
              have c38b1 : (a0.toList != ((⟨#[97,108,108,98,117,116]⟩ : ByteArray) ++ t171).toList) = false:=bne_eq_false_iff_eq.mpr c38;clear c38
              replace H:=Option.bind_eq_some_iff.mp H
              obtain ⟨t178,A390,H⟩:=H
              replace H : (some (t178,true)) = some (r1,r2):=H
              have A39:=Aside0.mk A390;clear A390
              simp only [Option.some.injEq,Prod.mk.injEq] at H
              obtain ⟨rfl,rfl⟩:=H
              go_wp2_with (first|((with_reducible refine gate_callee (f:=69) rfl ?_);refine goesL_ (some 60) rfl rfl Try.func69 (by kernel_rfl) rfl #[.int .i64 5,.int .i64 x6_2] rfl (by (try simp only [List.map_toArray,List.map_cons,List.map_nil]);first|done|rfl|(simp only [List.length_drop,List.length_take];rfl)) ?_;(with_reducible refine (spec_l1Made.calls kj25 5 x6_2 t178 _ A39.out).mono ?_);rintro e w40 ⟨v179,rfl,ho0,hb⟩;refine ⟨_,rfl,?_⟩;have n0_:=Aside0.mk (Kd.R_lower ho0 (below_size (belU HB.out)));have n1_:=Aside0.mk (below_step (belU HB.out) hb);clear HB;have HO180:=n0_;have HB:=n1_;clear n0_ n1_;(try clear hb);(try clear hb2);(try clear hk);(try clear hi);(try clear ho0)))
              go_ret2
              exact ⟨_,by first|rfl|(simp [errW_none,errW_some] <;> rfl)|(simp [*,errW_none,errW_some] <;> rfl),rU HO180.out,belU HB.out⟩
             ·
              rw [if_neg c38] at H
              have c38b0 : (a0.toList == ((⟨#[97,108,108,98,117,116]⟩ : ByteArray) ++ t171).toList) = false:=beq_eq_false_iff_ne.mpr c38
              have c38b1 : (a0.toList != ((⟨#[97,108,108,98,117,116]⟩ : ByteArray) ++ t171).toList) = true:=bne_iff_ne.mpr c38
              have H':=Aside0.mk H;clear H
              go_wp2
              go_roundg kj25
              case measure => have:=HK1.out;have:=HK2.out;have:=HJ25.out;omega
              case rel => exact ⟨(wrap64 (x6_2 + 1)),(by first|rfl|(simp;done)|(simp [*];done)),H',⟨by have:=HK1.out;have:=HK2.out;have:=HJ25.out;omega⟩,⟨belU HB.out⟩⟩
            ·
             rw [if_neg c37] at H
             exact absurd H (by simp)
          ·
           rw [if_neg c33] at H
           exact absurd H (by simp)
      ·
       rw [if_neg c24] at H
       have c24b0 : decide (x6_2 ≤ 5) = false:=decide_eq_false c24;clear c24
       obtain ⟨y168,hy168⟩ : ∃ y_ : List Int,y_ = (([] : List Int)):=⟨_,rfl⟩
       replace H : (some (y168,false)) = some (r1,r2):=by first|(rw [hy168];with_reducible exact H)|(have H2_:=(Option.bind_some _ _).symm.trans H;rw [hy168];with_reducible exact H2_)|(have H2_:=(Option.bind_some _ _).symm.trans H;with_reducible exact H2_)|with_reducible exact H|(rw [hy168];exact H)|exact H
       have Ny168:=Aside0.mk hy168;clear hy168
       simp only [Option.some.injEq,Prod.mk.injEq] at H
       obtain ⟨rfl,rfl⟩:=H
       go_wp2_with (first|((with_reducible refine gate_dst (N:=61) rfl ?_);refine Kd.R_lit (Kd.int .i64) _ 3 ?hg (N:=61) ?hd (xs:=([] : List Int)) (inner:=[]) (ok:=fun _ => True) (okp:=fun _ => True) ?hr ?hp (fun _ hk => hk) trivial (Below.refl _ _) (Nat.le_refl _) (by simp) ?_;(case hd => rfl);(case hg => rfl);(case hr => first|(go_simp;done)|(go_simp;rfl));(case hp => exact (Reps.none _ _));intro v169 w41 ho42 hb hg_ hnew_;clear hg_ hnew_;(first|rw [← Ny168.out] at ho42|(simp only [Int.reduceToNat] at ho42;rw [← Ny168.out] at ho42));have n0_:=Aside0.mk (Kd.R_lower ho42 (below_size (belU HB.out)));have n1_:=Aside0.mk (below_step (belU HB.out) hb);clear HB;have HO170:=n0_;have HB:=n1_;clear n0_ n1_ hb ho42))
       go_ret2
       exact ⟨_,by first|rfl|(simp [errW_none,errW_some] <;> rfl)|(simp [*,errW_none,errW_some] <;> rfl),rU HO170.out,belU HB.out⟩

end Go.Proofs.Ytmeamfkjfpaciaa.PA
