/- The machine side of functions of this seat, written by the session's program myprint.py: for each Go function a Lean function and the proof that the call answers just it. -/
import Derived.Test.YtmeamfkjfpaciaaPAx0
namespace Go.Proofs.Ytmeamfkjfpaciaa.PA
open Go.RowKit Go.Proofs.YtmeamfkjfpaciaaW.PrintWords Go.Proofs.YtmeamfkjfpaciaaW.PrintLast Go.Proofs.YtmeamfkjfpaciaaW.PrintMore
attribute [local go_sem] max2_int min2_int max_two min_two max_three min_three max_four min_four   -- for this text's walks alone
set_option linter.unusedVariables false
set_option linter.unusedSimpArgs false

/-! ### laws_common: function 40 -/
def laws_common.l0 : Nat → Int → Int → Int → Int → Option (Int)
 | 0,_,_,_,_ => none
 | k + 1,x0,x1,x5,x6 => if x6 < 3 then (if 0 ≤ x6 then (if (Int.tmod (shr .i64 x0 x6) 2) = 1 then (if (Int.tmod (shr .i64 x1 x6) 2) = 1 then (laws_common.l0 k x0 x1 (wrap64 (x5 + (shl .i64 1 x6))) (wrap64 (x6 + 1))) else (laws_common.l0 k x0 x1 x5 (wrap64 (x6 + 1)))) else (laws_common.l0 k x0 x1 x5 (wrap64 (x6 + 1)))) else (none)) else (some x5)
def laws_common.f (k : Nat) (a0 : Int) (a1 : Int) : Option (Int):=laws_common.l0 k a0 a1 0 0
theorem laws_common.mono_l : ∀ k,(∀ y0 y1 y2 y3,LeO (laws_common.l0 k y0 y1 y2 y3) (laws_common.l0 (k + 1) y0 y1 y2 y3))
 | 0 => fun _ _ _ _ r h => by simp [laws_common.l0] at h
 | k + 1 => by
  have ih0:=laws_common.mono_l k
  ·
   intro y0 y1 y2 y3
   unfold laws_common.l0
   repeat' first
   | (with_reducible exact ih0 _ _ _ _)
   | (with_reducible exact LeO.refl _)
   | (with_reducible exact LeO.none _)
   | (with_reducible refine LeO.ite ?_ ?_)
   | (with_reducible refine LeO.bind ?_ (fun _ => ?_))
   | exact ih0 _ _ _ _
   | exact LeO.none _
   | refine LeO.ite ?_ ?_
   | refine LeO.bind ?_ (fun _ => ?_)
theorem laws_common.mono : ∀ a0 a1 k,LeO (laws_common.f k a0 a1) (laws_common.f (k + 1) a0 a1):=by
 intro a0 a1 k
 have ih0:=laws_common.mono_l k
 unfold laws_common.f
 repeat' first
   | (with_reducible exact ih0 _ _ _ _)
   | (with_reducible exact LeO.refl _)
   | (with_reducible exact LeO.none _)
   | (with_reducible refine LeO.ite ?_ ?_)
   | (with_reducible refine LeO.bind ?_ (fun _ => ?_))
   | exact ih0 _ _ _ _
   | exact LeO.none _
   | refine LeO.ite ?_ ?_
   | refine LeO.bind ?_ (fun _ => ?_)
set_option maxHeartbeats 8000000 in
set_option maxRecDepth 100000 in
theorem laws_common.calls (k : Nat) (a0 : Int) (a1 : Int) (r : Int) (w : World) (h : laws_common.f k a0 a1 = some r) :
  Calls Try.prog 40 #[.int .i64 a0,.int .i64 a1] w fun e w' => e = .returned (.int .i64 r) ∧ Drawn0 w w':=by
 have H : (laws_common.l0 k a0 a1 0 0) = some r:=h;clear h
 have H':=Aside0.mk H;clear H
 go_enter Try.func40,Try.ntmps40
 go_wp2
 go_loopg [5,6] k (fun kq v5 v6 w' => ∃ (x5_1 : Int) (x6_1 : Int),v5 = .int .i64 x5_1 ∧ v6 = .int .i64 x6_1 ∧ Aside0 (laws_common.l0 kq a0 a1 x5_1 x6_1 = some r) ∧ Aside0 (kq ≤ k) ∧ Drawn0 w w')
 case atStart => exact ⟨(0),(0),(by first|rfl|(simp;done)|(simp [*];done)),(by first|rfl|(simp;done)|(simp [*];done)),H',⟨Nat.le_refl _⟩,by repeat (first|exact Drawn0.refl _|apply Drawn0.step)⟩
 case round =>
  clear H'
  try clear p2
  obtain ⟨x5_1,x6_1,rfl,rfl,HA,HK1,⟨m1,rfl⟩⟩:=hrel
  cases gk with
  | zero => exact absurd HA.out (by simp [laws_common.l0])
  | succ k1 =>
   have H:=HA.out;clear HA
   simp only [laws_common.l0] at H
   by_cases c3 : x6_1 < 3
   ·
    rw [if_pos c3] at H
    have c3b0 : decide (x6_1 < 3) = true:=decide_eq_true c3;clear c3
    by_cases c4 : 0 ≤ x6_1
    ·
     rw [if_pos c4] at H
     have c4b0:=eq_true c4
     have c4b1 : decide (0 ≤ x6_1) = true:=decide_eq_true c4;clear c4
     obtain ⟨ji5,hji5⟩ : ∃ j_ : Int,(shr .i64 a0 x6_1) = j_:=⟨_,rfl⟩
     replace H : (if (Int.tmod (ji5) 2) = 1 then (if (Int.tmod (shr .i64 a1 x6_1) 2) = 1 then (laws_common.l0 k1 a0 a1 (wrap64 (x5_1 + (shl .i64 1 x6_1))) (wrap64 (x6_1 + 1))) else (laws_common.l0 k1 a0 a1 x5_1 (wrap64 (x6_1 + 1)))) else (laws_common.l0 k1 a0 a1 x5_1 (wrap64 (x6_1 + 1)))) = some r:=by first|(rw [hji5] at H;exact H)|(simp only [hji5] at H ⊢;exact H)
     have hji5_ : (a0 / 2 ^ min x6_1.toNat 64) = ji5:=hji5
     have hji5z : x6_1 ≤ 64 → (a0 / 2 ^ x6_1.toNat) = ji5:=shr_small hji5
     by_cases c6 : (Int.tmod (ji5) 2) = 1
     ·
      rw [if_pos c6] at H
      have c6b0 : ((Int.tmod (ji5) 2) == 1) = true:=beq_iff_eq.mpr c6
      have c6b1 : ((Int.tmod (ji5) 2) != 1) = false:=bne_eq_false_iff_eq.mpr c6;clear c6
      have c7b0:=eq_true (of_decide_eq_true (by first|(with_reducible assumption)|assumption) : 0 ≤ x6_1)
      obtain ⟨ji8,hji8⟩ : ∃ j_ : Int,(shr .i64 a1 x6_1) = j_:=⟨_,rfl⟩
      replace H : (if (Int.tmod (ji8) 2) = 1 then (laws_common.l0 k1 a0 a1 (wrap64 (x5_1 + (shl .i64 1 x6_1))) (wrap64 (x6_1 + 1))) else (laws_common.l0 k1 a0 a1 x5_1 (wrap64 (x6_1 + 1)))) = some r:=by first|(rw [hji8] at H;exact H)|(simp only [hji8] at H ⊢;exact H)
      have hji8_ : (a1 / 2 ^ min x6_1.toNat 64) = ji8:=hji8
      have hji8z : x6_1 ≤ 64 → (a1 / 2 ^ x6_1.toNat) = ji8:=shr_small hji8
      by_cases c9 : (Int.tmod (ji8) 2) = 1
      ·
       rw [if_pos c9] at H
       have c9b0 : ((Int.tmod (ji8) 2) == 1) = true:=beq_iff_eq.mpr c9
       have c9b1 : ((Int.tmod (ji8) 2) != 1) = false:=bne_eq_false_iff_eq.mpr c9;clear c9
       have c10b0:=eq_true (of_decide_eq_true (by first|(with_reducible assumption)|assumption) : 0 ≤ x6_1)
       obtain ⟨ji11,hji11⟩ : ∃ j_ : Int,(shl .i64 1 x6_1) = j_:=⟨_,rfl⟩
       replace H : (laws_common.l0 k1 a0 a1 (wrap64 (x5_1 + (ji11))) (wrap64 (x6_1 + 1))) = some r:=by first|(rw [hji11] at H;exact H)|(simp only [hji11] at H ⊢;exact H)
       have hji11_ : (IntKind.i64.wrap (1 * 2 ^ min x6_1.toNat 64)) = ji11:=hji11
       have hji11z : x6_1 ≤ 64 → (IntKind.i64.wrap (1 * 2 ^ x6_1.toNat)) = ji11:=shl_small hji11
       have hji11u : (IntKind.i64.wrap (2 ^ min x6_1.toNat 64)) = ji11:=by have h_:=hji11_;rw [Int.one_mul] at h_;exact h_
       have hji11v : x6_1 ≤ 64 → (IntKind.i64.wrap (2 ^ x6_1.toNat)) = ji11:=fun hle_ => by have h_:=hji11z hle_;rw [Int.one_mul] at h_;exact h_
       have hji11y : (wrap64 (1 * 2 ^ min x6_1.toNat 64)) = ji11:=(i64_w _).symm.trans hji11_
       have hji11x : x6_1 ≤ 64 → (wrap64 (1 * 2 ^ x6_1.toNat)) = ji11:=fun h_ => (i64_w _).symm.trans (hji11z h_)
       have H':=Aside0.mk H;clear H
       go_wp2
       go_roundg k1
       case measure => have:=HK1.out;omega
       case rel => exact ⟨(wrap64 (x5_1 + (ji11))),(wrap64 (x6_1 + 1)),(by first|rfl|(simp;done)|(simp only [← hji11] <;> (first|rfl|simp))|(simp [*];done)),(by first|rfl|(simp;done)|(simp [*];done)),H',⟨by have:=HK1.out;omega⟩,by repeat (first|exact Drawn0.refl _|apply Drawn0.step)⟩
      ·
       rw [if_neg c9] at H
       have c9b0 : ((Int.tmod (ji8) 2) == 1) = false:=beq_eq_false_iff_ne.mpr c9
       have c9b1 : ((Int.tmod (ji8) 2) != 1) = true:=bne_iff_ne.mpr c9
       have H':=Aside0.mk H;clear H
       go_wp2
       go_roundg k1
       case measure => have:=HK1.out;omega
       case rel => exact ⟨(x5_1),(wrap64 (x6_1 + 1)),(by first|rfl|(simp;done)|(simp [*];done)),(by first|rfl|(simp;done)|(simp [*];done)),H',⟨by have:=HK1.out;omega⟩,by repeat (first|exact Drawn0.refl _|apply Drawn0.step)⟩
     ·
      rw [if_neg c6] at H
      have c6b0 : ((Int.tmod (ji5) 2) == 1) = false:=beq_eq_false_iff_ne.mpr c6
      have c6b1 : ((Int.tmod (ji5) 2) != 1) = true:=bne_iff_ne.mpr c6
      have H':=Aside0.mk H;clear H
      go_wp2
      go_roundg k1
      case measure => have:=HK1.out;omega
      case rel => exact ⟨(x5_1),(wrap64 (x6_1 + 1)),(by first|rfl|(simp;done)|(simp [*];done)),(by first|rfl|(simp;done)|(simp [*];done)),H',⟨by have:=HK1.out;omega⟩,by repeat (first|exact Drawn0.refl _|apply Drawn0.step)⟩
    ·
     rw [if_neg c4] at H
     exact absurd H (by simp)
   ·
    rw [if_neg c3] at H
    have c3b0 : decide (x6_1 < 3) = false:=decide_eq_false c3;clear c3
    obtain rfl:=Option.some.inj H
    go_wp2
    go_ret
    exact ⟨by first|rfl|(simp;done)|(simp [*];done),by repeat (first|exact Drawn0.refl _|apply Drawn0.step)⟩

/-! ### laws_insideOf: function 19 -/
def laws_insideOf.f (k : Nat) (a0 : Int) (a1 : Int) : Option (Bool):=(laws_common.f k a0 a1).bind fun t408 => (some (t408 == a0))
theorem laws_insideOf.mono : ∀ a0 a1 k,LeO (laws_insideOf.f k a0 a1) (laws_insideOf.f (k + 1) a0 a1):=by
 intro a0 a1 k
 unfold laws_insideOf.f
 repeat' first
   | (with_reducible exact laws_common.mono _ _ _)
   | (with_reducible exact LeO.refl _)
   | (with_reducible exact LeO.none _)
   | (with_reducible refine LeO.ite ?_ ?_)
   | (with_reducible refine LeO.bind ?_ (fun _ => ?_))
   | exact laws_common.mono _ _ _
   | exact LeO.none _
   | refine LeO.ite ?_ ?_
   | refine LeO.bind ?_ (fun _ => ?_)
set_option maxHeartbeats 8000000 in
set_option maxRecDepth 100000 in
theorem laws_insideOf.calls (k : Nat) (a0 : Int) (a1 : Int) (r : Bool) (w : World) (h : laws_insideOf.f k a0 a1 = some r) :
  Calls Try.prog 19 #[.int .i64 a0,.int .i64 a1] w fun e w' => e = .returned (.bool r) ∧ Drawn0 w w':=by
 have H : ((laws_common.f k a0 a1).bind fun t408 => (some (t408 == a0))) = some r:=h;clear h
 replace H:=Option.bind_eq_some_iff.mp H
 obtain ⟨t408,A30,H⟩:=H
 replace H : (some (t408 == a0)) = some r:=H
 have A3:=Aside0.mk A30;clear A30
 obtain rfl:=Option.some.inj H
 go_enter Try.func19,Try.ntmps19
 go_wp2_with (first|((with_reducible refine gate_callee (f:=40) rfl ?_);refine goesL_ (some 7) rfl rfl Try.func40 (by kernel_rfl) rfl #[.int .i64 a0,.int .i64 a1] rfl (by (try simp only [List.map_toArray,List.map_cons,List.map_nil]);first|done|rfl|(simp only [List.length_drop,List.length_take];rfl)) ?_;(with_reducible refine (laws_common.calls k a0 a1 t408 _ A3.out).mono ?_);rintro e w' ⟨rfl,⟨nd,rfl⟩⟩;refine ⟨_,rfl,?_⟩))
 go_ret
 exact ⟨by first|rfl|(simp;done)|(simp [*];done),by repeat (first|exact Drawn0.refl _|apply Drawn0.step)⟩

/-! ### stringslite_HasPrefix: function 73 -/
def stringslite_HasPrefix.f (a0 : ByteArray) (a1 : ByteArray) : Option (Bool):=if (a0.size : Int) ≥ (a1.size : Int) then (if 0 ≤ (a1.size : Int) then (if (a1.size : Int) ≤ (a0.size : Int) then (some ((a0.extract 0 ((a1.size : Int) : Int).toNat).toList == a1.toList)) else (none)) else (none)) else (some false)
set_option maxHeartbeats 8000000 in
set_option maxRecDepth 100000 in
theorem stringslite_HasPrefix.calls (a0 : ByteArray) (a1 : ByteArray) (r : Bool) (w : World) (h : stringslite_HasPrefix.f a0 a1 = some r) :
  Calls Try.prog 73 #[.string a0,.string a1] w fun e w' => e = .returned (.bool r) ∧ Drawn0 w w':=by
 have H : (if (a0.size : Int) ≥ (a1.size : Int) then (if 0 ≤ (a1.size : Int) then (if (a1.size : Int) ≤ (a0.size : Int) then (some ((a0.extract 0 ((a1.size : Int) : Int).toNat).toList == a1.toList)) else (none)) else (none)) else (some false)) = some r:=h;clear h
 by_cases c3 : (a0.size : Int) ≥ (a1.size : Int)
 ·
  rw [if_pos c3] at H
  have c3b0 : decide ((a1.size : Int) ≤ (a0.size : Int)) = true:=decide_eq_true c3
  have c3b1 : decide (a1.size ≤ a0.size) = true:=decide_eq_true (Int.ofNat_le.mp c3);clear c3
  by_cases c4 : 0 ≤ (a1.size : Int)
  ·
   rw [if_pos c4] at H
   have c4b0:=eq_true c4
   have c4b1 : decide (0 ≤ (a1.size : Int)) = true:=decide_eq_true c4;clear c4
   by_cases c5 : (a1.size : Int) ≤ (a0.size : Int)
   ·
    rw [if_pos c5] at H
    have c5b0:=eq_true c5
    have c5b1 : decide ((a1.size : Int) ≤ (a0.size : Int)) = true:=decide_eq_true c5;clear c5
    obtain rfl:=Option.some.inj H
    go_enter Try.func73,Try.ntmps73
    go_wp2
    go_ret
    exact ⟨by first|rfl|(simp;done)|(simp [*];done),by repeat (first|exact Drawn0.refl _|apply Drawn0.step)⟩
   ·
    rw [if_neg c5] at H
    exact absurd H (by simp)
  ·
   rw [if_neg c4] at H
   exact absurd H (by simp)
 ·
  rw [if_neg c3] at H
  have c3b0 : decide ((a1.size : Int) ≤ (a0.size : Int)) = false:=decide_eq_false c3
  have c3b1 : decide (a1.size ≤ a0.size) = false:=decide_eq_false (fun h => c3 (Int.ofNat_le.mpr h));clear c3
  obtain rfl:=Option.some.inj H
  go_enter Try.func73,Try.ntmps73
  go_wp2
  go_ret
  exact ⟨by first|rfl|(simp;done)|(simp [*];done),by repeat (first|exact Drawn0.refl _|apply Drawn0.step)⟩

/-! ### stringslite_CutPrefix: function 72 -/
def stringslite_CutPrefix.f (a0 : ByteArray) (a1 : ByteArray) : Option (ByteArray × Bool):=(stringslite_HasPrefix.f a0 a1).bind fun t409 => (if t409 = true then (if 0 ≤ (a1.size : Int) then (if (a1.size : Int) ≤ (a0.size : Int) then (some (a0.extract ((a1.size : Int) : Int).toNat a0.size,true)) else (none)) else (none)) else (some (a0,false)))
set_option maxHeartbeats 8000000 in
set_option maxRecDepth 100000 in
theorem stringslite_CutPrefix.calls (a0 : ByteArray) (a1 : ByteArray) (r1 : ByteArray) (r2 : Bool) (w : World) (h : stringslite_CutPrefix.f a0 a1 = some (r1,r2)) :
  Calls Try.prog 72 #[.string a0,.string a1] w fun e w' => e = .returned (.tuple #[.string r1,.bool r2]) ∧ Drawn0 w w':=by
 have H : ((stringslite_HasPrefix.f a0 a1).bind fun t409 => (if t409 = true then (if 0 ≤ (a1.size : Int) then (if (a1.size : Int) ≤ (a0.size : Int) then (some (a0.extract ((a1.size : Int) : Int).toNat a0.size,true)) else (none)) else (none)) else (some (a0,false)))) = some (r1,r2):=h;clear h
 replace H:=Option.bind_eq_some_iff.mp H
 obtain ⟨t409,A30,H⟩:=H
 replace H : (if t409 = true then (if 0 ≤ (a1.size : Int) then (if (a1.size : Int) ≤ (a0.size : Int) then (some (a0.extract ((a1.size : Int) : Int).toNat a0.size,true)) else (none)) else (none)) else (some (a0,false))) = some (r1,r2):=H
 have A3:=Aside0.mk A30;clear A30
 by_cases c4 : t409 = true
 ·
  subst c4
  have H1 : (if 0 ≤ (a1.size : Int) then (if (a1.size : Int) ≤ (a0.size : Int) then (some (a0.extract ((a1.size : Int) : Int).toNat a0.size,true)) else (none)) else (none)) = some (r1,r2):=by rw [if_pos rfl] at H;exact H
  clear H;have H:=H1;clear H1
  by_cases c5 : 0 ≤ (a1.size : Int)
  ·
   rw [if_pos c5] at H
   have c5b0:=eq_true c5
   have c5b1 : decide (0 ≤ (a1.size : Int)) = true:=decide_eq_true c5;clear c5
   by_cases c6 : (a1.size : Int) ≤ (a0.size : Int)
   ·
    rw [if_pos c6] at H
    have c6b0:=eq_true c6
    have c6b1 : decide ((a1.size : Int) ≤ (a0.size : Int)) = true:=decide_eq_true c6;clear c6
    simp only [Option.some.injEq,Prod.mk.injEq] at H
    obtain ⟨rfl,rfl⟩:=H
    go_enter Try.func72,Try.ntmps72
    go_wp2_with (first|((with_reducible refine gate_callee (f:=73) rfl ?_);refine goesL_ (some 8) rfl rfl Try.func73 (by kernel_rfl) rfl #[.string a0,.string a1] rfl (by (try simp only [List.map_toArray,List.map_cons,List.map_nil]);first|done|rfl|(simp only [List.length_drop,List.length_take];rfl)) ?_;(with_reducible refine (stringslite_HasPrefix.calls a0 a1 true _ A3.out).mono ?_);rintro e w' ⟨rfl,⟨nd,rfl⟩⟩;refine ⟨_,rfl,?_⟩))
    go_ret2
    exact ⟨by first|rfl|(simp;done)|(simp [*];done),by repeat (first|exact Drawn0.refl _|apply Drawn0.step)⟩
   ·
    rw [if_neg c6] at H
    exact absurd H (by simp)
  ·
   rw [if_neg c5] at H
   exact absurd H (by simp)
 ·
  replace c4:=Bool.eq_false_iff.mpr c4;subst c4
  have H1 : (some (a0,false)) = some (r1,r2):=by rw [if_neg (show ¬ (false = true) by decide)] at H;exact H
  clear H;have H:=H1;clear H1
  simp only [Option.some.injEq,Prod.mk.injEq] at H
  obtain ⟨rfl,rfl⟩:=H
  go_enter Try.func72,Try.ntmps72
  go_wp2_with (first|((with_reducible refine gate_callee (f:=73) rfl ?_);refine goesL_ (some 8) rfl rfl Try.func73 (by kernel_rfl) rfl #[.string a0,.string a1] rfl (by (try simp only [List.map_toArray,List.map_cons,List.map_nil]);first|done|rfl|(simp only [List.length_drop,List.length_take];rfl)) ?_;(with_reducible refine (stringslite_HasPrefix.calls a0 a1 false _ A3.out).mono ?_);rintro e w' ⟨rfl,⟨nd,rfl⟩⟩;refine ⟨_,rfl,?_⟩))
  go_ret2
  exact ⟨by first|rfl|(simp;done)|(simp [*];done),by repeat (first|exact Drawn0.refl _|apply Drawn0.step)⟩

/-! ### strings_CutPrefix: function 71 -/
def strings_CutPrefix.f (a0 : ByteArray) (a1 : ByteArray) : Option (ByteArray × Bool):=(stringslite_CutPrefix.f a0 a1).bind fun bt410 => (some (bt410.1,bt410.2))
set_option maxHeartbeats 8000000 in
set_option maxRecDepth 100000 in
theorem strings_CutPrefix.calls (a0 : ByteArray) (a1 : ByteArray) (r1 : ByteArray) (r2 : Bool) (w : World) (h : strings_CutPrefix.f a0 a1 = some (r1,r2)) :
  Calls Try.prog 71 #[.string a0,.string a1] w fun e w' => e = .returned (.tuple #[.string r1,.bool r2]) ∧ Drawn0 w w':=by
 have H : ((stringslite_CutPrefix.f a0 a1).bind fun bt410 => (some (bt410.1,bt410.2))) = some (r1,r2):=h;clear h
 replace H:=Option.bind_eq_some_iff.mp H
 obtain ⟨⟨t410,t411⟩,A30,H⟩:=H
 replace H : (some (t410,t411)) = some (r1,r2):=H
 have A3:=Aside0.mk A30;clear A30
 simp only [Option.some.injEq,Prod.mk.injEq] at H
 obtain ⟨rfl,rfl⟩:=H
 go_enter Try.func71,Try.ntmps71
 go_wp2_with (first|((with_reducible refine gate_callee (f:=72) rfl ?_);refine goesL_ (some 8) rfl rfl Try.func72 (by kernel_rfl) rfl #[.string a0,.string a1] rfl (by (try simp only [List.map_toArray,List.map_cons,List.map_nil]);first|done|rfl|(simp only [List.length_drop,List.length_take];rfl)) ?_;(with_reducible refine (stringslite_CutPrefix.calls a0 a1 t410 t411 _ A3.out).mono ?_);rintro e w' ⟨rfl,⟨nd,rfl⟩⟩;refine ⟨_,rfl,?_⟩))
 go_ret2
 exact ⟨by first|rfl|(simp;done)|(simp [*];done),by repeat (first|exact Drawn0.refl _|apply Drawn0.step)⟩

/-! ### impl_countIn: function 64 -/
def impl_countIn.f (a0 : ByteArray) (a1 : ByteArray) (a2 : Int) (a3 : Int) : Option (Int × Bool):=(strings_CutPrefix.f a0 a1).bind fun bt412 => (if bt412.2 = true then (if (bt412.1.size : Int) = 1 then (if 0 < (bt412.1.size : Int) then (if (wrap64 ((wrap64 (bt bt412.1 0)) - 48)) ≥ a2 then (some (wrap64 ((wrap64 (bt bt412.1 0)) - 48),decide ((wrap64 ((wrap64 (bt bt412.1 0)) - 48)) ≤ a3))) else (some (wrap64 ((wrap64 (bt bt412.1 0)) - 48),false))) else (none)) else (some (0,false))) else (some (0,false)))
set_option maxHeartbeats 8000000 in
set_option maxRecDepth 100000 in
theorem impl_countIn.calls (a0 : ByteArray) (a1 : ByteArray) (a2 : Int) (a3 : Int) (r1 : Int) (r2 : Bool) (w : World) (h : impl_countIn.f a0 a1 a2 a3 = some (r1,r2)) :
  Calls Try.prog 64 #[.string a0,.string a1,.int .i64 a2,.int .i64 a3] w fun e w' => e = .returned (.tuple #[.int .i64 r1,.bool r2]) ∧ Drawn0 w w':=by
 have H : ((strings_CutPrefix.f a0 a1).bind fun bt412 => (if bt412.2 = true then (if (bt412.1.size : Int) = 1 then (if 0 < (bt412.1.size : Int) then (if (wrap64 ((wrap64 (bt bt412.1 0)) - 48)) ≥ a2 then (some (wrap64 ((wrap64 (bt bt412.1 0)) - 48),decide ((wrap64 ((wrap64 (bt bt412.1 0)) - 48)) ≤ a3))) else (some (wrap64 ((wrap64 (bt bt412.1 0)) - 48),false))) else (none)) else (some (0,false))) else (some (0,false)))) = some (r1,r2):=h;clear h
 replace H:=Option.bind_eq_some_iff.mp H
 obtain ⟨⟨t412,t413⟩,A50,H⟩:=H
 replace H : (if t413 = true then (if (t412.size : Int) = 1 then (if 0 < (t412.size : Int) then (if (wrap64 ((wrap64 (bt t412 0)) - 48)) ≥ a2 then (some (wrap64 ((wrap64 (bt t412 0)) - 48),decide ((wrap64 ((wrap64 (bt t412 0)) - 48)) ≤ a3))) else (some (wrap64 ((wrap64 (bt t412 0)) - 48),false))) else (none)) else (some (0,false))) else (some (0,false))) = some (r1,r2):=H
 have A5:=Aside0.mk A50;clear A50
 by_cases c6 : t413 = true
 ·
  subst c6
  have H1 : (if (t412.size : Int) = 1 then (if 0 < (t412.size : Int) then (if (wrap64 ((wrap64 (bt t412 0)) - 48)) ≥ a2 then (some (wrap64 ((wrap64 (bt t412 0)) - 48),decide ((wrap64 ((wrap64 (bt t412 0)) - 48)) ≤ a3))) else (some (wrap64 ((wrap64 (bt t412 0)) - 48),false))) else (none)) else (some (0,false))) = some (r1,r2):=by rw [if_pos rfl] at H;exact H
  clear H;have H:=H1;clear H1
  by_cases c7 : (t412.size : Int) = 1
  ·
   rw [if_pos c7] at H
   have c7b0 : ((t412.size : Int) == 1) = true:=beq_iff_eq.mpr c7
   have c7b1 : ((t412.size : Int) != 1) = false:=bne_eq_false_iff_eq.mpr c7;clear c7
   by_cases c8 : 0 < (t412.size : Int)
   ·
    rw [if_pos c8] at H
    have c8b0 : decide (0 < (t412.size : Int)) = true:=decide_eq_true c8
    have c8b1 : decide (0 < t412.size) = true:=decide_eq_true (by omega);clear c8
    by_cases c10 : (wrap64 ((wrap64 (bt t412 0)) - 48)) ≥ a2
    ·
     rw [if_pos c10] at H
     have c10b0 : decide (a2 ≤ (wrap64 ((wrap64 (bt t412 0)) - 48))) = true:=decide_eq_true c10;clear c10
     simp only [Option.some.injEq,Prod.mk.injEq] at H
     obtain ⟨rfl,rfl⟩:=H
     go_enter Try.func64,Try.ntmps64
     go_wp2_with (first|((with_reducible refine gate_callee (f:=71) rfl ?_);refine goesL_ (some 16) rfl rfl Try.func71 (by kernel_rfl) rfl #[.string a0,.string a1] rfl (by (try simp only [List.map_toArray,List.map_cons,List.map_nil]);first|done|rfl|(simp only [List.length_drop,List.length_take];rfl)) ?_;(with_reducible refine (strings_CutPrefix.calls a0 a1 t412 true _ A5.out).mono ?_);rintro e w' ⟨rfl,⟨nd,rfl⟩⟩;refine ⟨_,rfl,?_⟩;have p9 : 0 ≤ (0 : Int):=(by omega);have q9 : 0 < t412.size:=(by have : (0 : Int) < (t412.size : Int):=of_decide_eq_true (by first|(with_reducible assumption)|assumption);omega);have hx9 : ∀ h : 0 < t412.size,((t412[0]'h).toNat : Int) = bt t412 0:=bt_at t412 0;clear p9;have qi9 : (0 < (t412.size : Int)) = True:=eq_true (of_decide_eq_true (by first|(with_reducible assumption)|assumption));replace q9:=eq_true q9))
     go_ret2
     exact ⟨by first|rfl|(simp;done)|(simp [*];done),by repeat (first|exact Drawn0.refl _|apply Drawn0.step)⟩
    ·
     rw [if_neg c10] at H
     have c10b0 : decide (a2 ≤ (wrap64 ((wrap64 (bt t412 0)) - 48))) = false:=decide_eq_false c10;clear c10
     simp only [Option.some.injEq,Prod.mk.injEq] at H
     obtain ⟨rfl,rfl⟩:=H
     go_enter Try.func64,Try.ntmps64
     go_wp2_with (first|((with_reducible refine gate_callee (f:=71) rfl ?_);refine goesL_ (some 16) rfl rfl Try.func71 (by kernel_rfl) rfl #[.string a0,.string a1] rfl (by (try simp only [List.map_toArray,List.map_cons,List.map_nil]);first|done|rfl|(simp only [List.length_drop,List.length_take];rfl)) ?_;(with_reducible refine (strings_CutPrefix.calls a0 a1 t412 true _ A5.out).mono ?_);rintro e w' ⟨rfl,⟨nd,rfl⟩⟩;refine ⟨_,rfl,?_⟩;have p9 : 0 ≤ (0 : Int):=(by omega);have q9 : 0 < t412.size:=(by have : (0 : Int) < (t412.size : Int):=of_decide_eq_true (by first|(with_reducible assumption)|assumption);omega);have hx9 : ∀ h : 0 < t412.size,((t412[0]'h).toNat : Int) = bt t412 0:=bt_at t412 0;clear p9;have qi9 : (0 < (t412.size : Int)) = True:=eq_true (of_decide_eq_true (by first|(with_reducible assumption)|assumption));replace q9:=eq_true q9))
     go_ret2
     exact ⟨by first|rfl|(simp;done)|(simp [*];done),by repeat (first|exact Drawn0.refl _|apply Drawn0.step)⟩
   ·
    rw [if_neg c8] at H
    exact absurd H (by simp)
  ·
   rw [if_neg c7] at H
   have c7b0 : ((t412.size : Int) == 1) = false:=beq_eq_false_iff_ne.mpr c7
   have c7b1 : ((t412.size : Int) != 1) = true:=bne_iff_ne.mpr c7
   simp only [Option.some.injEq,Prod.mk.injEq] at H
   obtain ⟨rfl,rfl⟩:=H
   go_enter Try.func64,Try.ntmps64
   go_wp2_with (first|((with_reducible refine gate_callee (f:=71) rfl ?_);refine goesL_ (some 16) rfl rfl Try.func71 (by kernel_rfl) rfl #[.string a0,.string a1] rfl (by (try simp only [List.map_toArray,List.map_cons,List.map_nil]);first|done|rfl|(simp only [List.length_drop,List.length_take];rfl)) ?_;(with_reducible refine (strings_CutPrefix.calls a0 a1 t412 true _ A5.out).mono ?_);rintro e w' ⟨rfl,⟨nd,rfl⟩⟩;refine ⟨_,rfl,?_⟩))
   go_ret2
   exact ⟨by first|rfl|(simp;done)|(simp [*];done),by repeat (first|exact Drawn0.refl _|apply Drawn0.step)⟩
 ·
  replace c6:=Bool.eq_false_iff.mpr c6;subst c6
  have H1 : (some (0,false)) = some (r1,r2):=by rw [if_neg (show ¬ (false = true) by decide)] at H;exact H
  clear H;have H:=H1;clear H1
  simp only [Option.some.injEq,Prod.mk.injEq] at H
  obtain ⟨rfl,rfl⟩:=H
  go_enter Try.func64,Try.ntmps64
  go_wp2_with (first|((with_reducible refine gate_callee (f:=71) rfl ?_);refine goesL_ (some 16) rfl rfl Try.func71 (by kernel_rfl) rfl #[.string a0,.string a1] rfl (by (try simp only [List.map_toArray,List.map_cons,List.map_nil]);first|done|rfl|(simp only [List.length_drop,List.length_take];rfl)) ?_;(with_reducible refine (strings_CutPrefix.calls a0 a1 t412 false _ A5.out).mono ?_);rintro e w' ⟨rfl,⟨nd,rfl⟩⟩;refine ⟨_,rfl,?_⟩))
  go_ret2
  exact ⟨by first|rfl|(simp;done)|(simp [*];done),by repeat (first|exact Drawn0.refl _|apply Drawn0.step)⟩

end Go.Proofs.Ytmeamfkjfpaciaa.PA
