/- The machine side of functions of this seat, written by the session's program myprint.py: for each Go function a Lean function and the proof that the call answers just it. -/
import Derived.Test.YtainbbpmaengjaaPAx0
import Derived.Test.YtainbbpmaengjaaPAx5
import Derived.Test.YtainbbpmaengjaaPAx18
import Derived.Test.YtainbbpmaengjaaPAx19
import Derived.Test.YtainbbpmaengjaaPAx20
import Derived.Test.YtainbbpmaengjaaPAx21
namespace Go.Proofs.Ytainbbpmaengjaa.PA
open Go.RowKit Go.Proofs.YtainbbpmaengjaaW.PrintWords Go.Proofs.YtainbbpmaengjaaW.PrintLast Go.Proofs.YtainbbpmaengjaaW.PrintMore
attribute [local go_sem] max2_int min2_int max_two min_two max_three min_three max_four min_four   -- for this text's walks alone
set_option linter.unusedVariables false
set_option linter.unusedSimpArgs false

/-! ### spec_DrawReadSay: function 39 -/
def spec_DrawReadSay.j0 : Nat → Int → ByteArray → Bool → List Int → Int → Option (Int × ByteArray)
  | 0, _, _, _, _, _ => none
  | k + 1, x5, x6, x24, x386000, x386001 => if x24 = true then ((spec_l20Rd_pick.f k x386000 x386001 (x6.size : Int)).bind fun bt395 => (if 0 ≤ bt395.1 then (if bt395.1 ≤ (x6.size : Int) then ((some (([(⟨#[]⟩ : ByteArray), (⟨#[99]⟩ : ByteArray), (⟨#[32]⟩ : ByteArray), (⟨#[110, 111, 110, 45]⟩ : ByteArray)] : List ByteArray) : List ByteArray)).bind fun y397 => ((spec_l20Rd_pick.f k x386000 bt395.2 4).bind fun bt400 => (if 0 ≤ bt400.1 then (if bt400.1 < (y397.length : Int) then (if (x6.extract 0 (bt395.1 : Int).toNat).size + (rdOf ByteArray.empty y397 bt400.1).size ≤ 9223372036854775807 then (if 0 ≤ (wrap64 (bt395.1 + 1)) then (if (wrap64 (bt395.1 + 1)) ≤ (x6.size : Int) then (if ((x6.extract 0 (bt395.1 : Int).toNat) ++ (rdOf ByteArray.empty y397 bt400.1)).size + (x6.extract ((wrap64 (bt395.1 + 1)) : Int).toNat x6.size).size ≤ 9223372036854775807 then (some (x5, ((x6.extract 0 (bt395.1 : Int).toNat) ++ (rdOf ByteArray.empty y397 bt400.1)) ++ (x6.extract ((wrap64 (bt395.1 + 1)) : Int).toNat x6.size))) else (none)) else (none)) else (none)) else (none)) else (none)) else (none)))) else (none)) else (none))) else (some (x5, x6))
def spec_DrawReadSay.f (k : Nat) (l0 : List Int) : Option (Int × ByteArray) := (spec_l20Open.f l0).bind fun bt383 => ((spec_l20Kinds.f k bt383.1 bt383.2 14).bind fun bt386 => ((spec_l20Say.f k bt383.1 bt386.2 bt386.1 0).bind fun bt388 => ((spec_SayText.f bt386.1 bt388.1 bt388.2.1 bt388.2.2.1).bind fun t392 => ((spec_l20Rd_pick.f k bt383.1 bt388.2.2.2 3).bind fun bt393 => (if bt393.1 = 0 then (spec_DrawReadSay.j0 k bt386.1 t392 (decide ((t392.size : Int) > 0)) bt383.1 bt393.2) else (spec_DrawReadSay.j0 k bt386.1 t392 false bt383.1 bt393.2))))))
theorem spec_DrawReadSay.mono_l : ∀ k, (∀ y0 y1 y2 y3 y4, LeO (spec_DrawReadSay.j0 k y0 y1 y2 y3 y4) (spec_DrawReadSay.j0 (k + 1) y0 y1 y2 y3 y4))
  | 0 => fun _ _ _ _ _ r h => by simp [spec_DrawReadSay.j0] at h
  | k + 1 => by
    have ih0 := spec_DrawReadSay.mono_l k
    · intro y0 y1 y2 y3 y4
      unfold spec_DrawReadSay.j0
      repeat' first
      | (with_reducible exact ih0 _ _ _ _ _)
      | (with_reducible exact spec_l20Kinds.mono _ _ _ _)
      | (with_reducible exact spec_l20Rd_pick.mono _ _ _ _)
      | (with_reducible exact spec_l20Say.mono _ _ _ _ _)
      | (with_reducible exact LeO.refl _)
      | (with_reducible exact LeO.none _)
      | (with_reducible refine LeO.ite ?_ ?_)
      | (with_reducible refine LeO.bind ?_ (fun _ => ?_))
      | exact ih0 _ _ _ _ _
      | exact spec_l20Kinds.mono _ _ _ _
      | exact spec_l20Rd_pick.mono _ _ _ _
      | exact spec_l20Say.mono _ _ _ _ _
      | exact LeO.none _
      | refine LeO.ite ?_ ?_
      | refine LeO.bind ?_ (fun _ => ?_)
theorem spec_DrawReadSay.mono : ∀ a0 k, LeO (spec_DrawReadSay.f k a0) (spec_DrawReadSay.f (k + 1) a0) := by
  intro a0 k
  have ih0 := spec_DrawReadSay.mono_l k
  unfold spec_DrawReadSay.f
  repeat' first
      | (with_reducible exact ih0 _ _ _ _ _)
      | (with_reducible exact spec_l20Kinds.mono _ _ _ _)
      | (with_reducible exact spec_l20Rd_pick.mono _ _ _ _)
      | (with_reducible exact spec_l20Say.mono _ _ _ _ _)
      | (with_reducible exact LeO.refl _)
      | (with_reducible exact LeO.none _)
      | (with_reducible refine LeO.ite ?_ ?_)
      | (with_reducible refine LeO.bind ?_ (fun _ => ?_))
      | exact ih0 _ _ _ _ _
      | exact spec_l20Kinds.mono _ _ _ _
      | exact spec_l20Rd_pick.mono _ _ _ _
      | exact spec_l20Say.mono _ _ _ _ _
      | exact LeO.none _
      | refine LeO.ite ?_ ?_
      | refine LeO.bind ?_ (fun _ => ?_)
def spec_DrawReadSay.T6 : Bool × List (List Nat × List Nat) := (true, [([], []), ([], []), ([], []), ([1, 2], [1, 2]), ([], []), ([], []), ([5], [5]), ([4, 6], [4, 6]), ([7], [7]), ([3, 8], [3, 8]), ([], []), ([], []), ([11], [11]), ([10, 12], [10, 12]), ([9, 13], [9, 13]), ([0, 6, 0], [0]), ([14, 15, 0, 1, 2, 3, 4, 5, 6, 7, 8, 9, 10, 11, 12, 13, 14, 15], [14])])
def spec_DrawReadSay.B6 : List Nat := [0, 0, 0, 6, 0, 0, 32, 112, 240, 510, 0, 0, 2048, 7168, 16382, 97, 65535]
theorem spec_DrawReadSay.tab6 : rtab .any (opsOf Try.f39 6) = spec_DrawReadSay.T6 := by kernel_rfl
theorem spec_DrawReadSay.bits6 : waitsOk spec_DrawReadSay.T6.2 spec_DrawReadSay.B6 = true := by kernel_rfl
set_option maxHeartbeats 8000000 in
set_option maxRecDepth 100000 in
theorem spec_DrawReadSay.calls (k : Nat) (A0 : Option Addr) (c0 : Nat) (l0 : List Int) (r1 : Int) (r2 : ByteArray) (w : World) (hr0 : Kd.C (Kd.int .u8) w A0 l0.length l0) (hc0 : l0.length ≤ c0) (h : spec_DrawReadSay.f k l0 = some (r1, r2)) :
    Calls Try.prog 39 #[.slice A0 l0.length c0] w fun e w' => e = .returned (.tuple #[.int .i64 r1, .string r2]) ∧ Below w.heap.size w w' := by
  have HR0 := Aside0.mk hr0
  have HC0 := Aside0.mk hc0; clear hr0 hc0; have HB := Aside0.mk (Below.refl w.heap.size w)
  have H : ((spec_l20Open.f l0).bind fun bt383 => ((spec_l20Kinds.f k bt383.1 bt383.2 14).bind fun bt386 => ((spec_l20Say.f k bt383.1 bt386.2 bt386.1 0).bind fun bt388 => ((spec_SayText.f bt386.1 bt388.1 bt388.2.1 bt388.2.2.1).bind fun t392 => ((spec_l20Rd_pick.f k bt383.1 bt388.2.2.2 3).bind fun bt393 => (if bt393.1 = 0 then (spec_DrawReadSay.j0 k bt386.1 t392 (decide ((t392.size : Int) > 0)) bt383.1 bt393.2) else (spec_DrawReadSay.j0 k bt386.1 t392 false bt383.1 bt393.2))))))) = some (r1, r2) := h; clear h
  replace H := Option.bind_eq_some_iff.mp H
  obtain ⟨⟨t383, t384⟩, A20, H⟩ := H
  replace H : ((spec_l20Kinds.f k t383 t384 14).bind fun bt386 => ((spec_l20Say.f k t383 bt386.2 bt386.1 0).bind fun bt388 => ((spec_SayText.f bt386.1 bt388.1 bt388.2.1 bt388.2.2.1).bind fun t392 => ((spec_l20Rd_pick.f k t383 bt388.2.2.2 3).bind fun bt393 => (if bt393.1 = 0 then (spec_DrawReadSay.j0 k bt386.1 t392 (decide ((t392.size : Int) > 0)) t383 bt393.2) else (spec_DrawReadSay.j0 k bt386.1 t392 false t383 bt393.2)))))) = some (r1, r2) := H
  have A2 := Aside0.mk A20; clear A20
  replace H := Option.bind_eq_some_iff.mp H
  obtain ⟨⟨t386, t387⟩, A30, H⟩ := H
  replace H : ((spec_l20Say.f k t383 t387 t386 0).bind fun bt388 => ((spec_SayText.f t386 bt388.1 bt388.2.1 bt388.2.2.1).bind fun t392 => ((spec_l20Rd_pick.f k t383 bt388.2.2.2 3).bind fun bt393 => (if bt393.1 = 0 then (spec_DrawReadSay.j0 k t386 t392 (decide ((t392.size : Int) > 0)) t383 bt393.2) else (spec_DrawReadSay.j0 k t386 t392 false t383 bt393.2))))) = some (r1, r2) := H
  have A3 := Aside0.mk A30; clear A30
  replace H := Option.bind_eq_some_iff.mp H
  obtain ⟨⟨t388, t389, t390, t391⟩, A40, H⟩ := H
  replace H : ((spec_SayText.f t386 t388 t389 t390).bind fun t392 => ((spec_l20Rd_pick.f k t383 t391 3).bind fun bt393 => (if bt393.1 = 0 then (spec_DrawReadSay.j0 k t386 t392 (decide ((t392.size : Int) > 0)) t383 bt393.2) else (spec_DrawReadSay.j0 k t386 t392 false t383 bt393.2)))) = some (r1, r2) := H
  have A4 := Aside0.mk A40; clear A40
  replace H := Option.bind_eq_some_iff.mp H
  obtain ⟨t392, A50, H⟩ := H
  replace H : ((spec_l20Rd_pick.f k t383 t391 3).bind fun bt393 => (if bt393.1 = 0 then (spec_DrawReadSay.j0 k t386 t392 (decide ((t392.size : Int) > 0)) t383 bt393.2) else (spec_DrawReadSay.j0 k t386 t392 false t383 bt393.2))) = some (r1, r2) := H
  have A5 := Aside0.mk A50; clear A50
  have HC6 := Aside0.mk H; clear H
  go_enter Try.func39, Try.ntmps39
  go_upto_region 4 with (first | ((with_reducible refine gate_callee (f := 55) rfl ?_); refine goesL_ (some 9) rfl rfl Try.func55 (by kernel_rfl) rfl #[.slice A0 l0.length c0] rfl (by (try simp only [List.map_toArray, List.map_cons, List.map_nil]); first | done | rfl | (simp only [List.length_drop, List.length_take]; rfl)) ?_; (with_reducible refine (spec_l20Open.calls _ _ l0 t383 t384 w _ ?side1 ?side2 ?side3 A2.out).mono ?_); (case side1 => repeat (first | (with_reducible first | exact HB.out | apply below_alloc | apply pw_below_drewN | apply below_drew1) | exact HB.out)); (case side2 => exact HR0.out); (case side3 => exact HC0.out); rintro e w7 ⟨g385, rfl, hi, hb, hb2⟩; refine ⟨_, rfl, ?_⟩; have n0_ := Aside0.mk (hb); have n1_ := Aside0.mk (hi); clear HB; have HB := n0_; have HI385 := n1_; clear n0_ n1_; (try clear hb); (try clear hb2); (try clear hk); (try clear hi)) | ((with_reducible refine gate_callee (f := 56) rfl ?_); refine goesL_ (some 11) rfl rfl Try.func56 (by kernel_rfl) rfl #[.pointer (some ⟨g385, 0, none⟩), .int .i64 14] rfl (by (try simp only [List.map_toArray, List.map_cons, List.map_nil]); first | done | rfl | (simp only [List.length_drop, List.length_take]; rfl)) ?_; (with_reducible refine (spec_l20Kinds.calls k g385 t383 t384 14 t386 t387 w _ ?side1 ?side2 A3.out).mono ?_); (case side1 => repeat (first | (with_reducible first | exact HI385.out | apply IsS79.alloc | apply IsS79.drewN | apply IsS79.drew | apply IsS79.set_1) | exact HI385.out)); (case side2 => repeat (first | (with_reducible first | exact HB.out | apply below_alloc | apply pw_below_drewN | apply below_drew1 | refine below_set ?_ (IsS79.ge HI385.out)) | exact HB.out)); rintro e w8 ⟨rfl, hi, hb, hk⟩; refine ⟨_, rfl, ?_⟩; have n0_ := Aside0.mk (hb); have n1_ := Aside0.mk (hi); clear HB HI385; have HB := n0_; have HI385 := n1_; clear n0_ n1_; (try clear hb); (try clear hb2); (try clear hk); (try clear hi)) | ((with_reducible refine gate_callee (f := 57) rfl ?_); refine goesL_ (some 15) rfl rfl Try.func57 (by kernel_rfl) rfl #[.pointer (some ⟨g385, 0, none⟩), .int .i64 t386, .int .i64 0] rfl (by (try simp only [List.map_toArray, List.map_cons, List.map_nil]); first | done | rfl | (simp only [List.length_drop, List.length_take]; rfl)) ?_; (with_reducible refine (spec_l20Say.calls k g385 t383 t387 t386 0 t388 t389 t390 t391 w _ ?side1 ?side2 A4.out).mono ?_); (case side1 => repeat (first | (with_reducible first | exact HI385.out | apply IsS79.alloc | apply IsS79.drewN | apply IsS79.drew | apply IsS79.set_1) | exact HI385.out)); (case side2 => repeat (first | (with_reducible first | exact HB.out | apply below_alloc | apply pw_below_drewN | apply below_drew1 | refine below_set ?_ (IsS79.ge HI385.out)) | exact HB.out)); rintro e w9 ⟨rfl, hi, hb, hk⟩; refine ⟨_, rfl, ?_⟩; have n0_ := Aside0.mk (hb); have n1_ := Aside0.mk (hi); clear HB HI385; have HB := n0_; have HI385 := n1_; clear n0_ n1_; (try clear hb); (try clear hb2); (try clear hk); (try clear hi)) | ((with_reducible refine gate_callee (f := 22) rfl ?_); refine goesL_ (some 16) rfl rfl Try.func22 (by kernel_rfl) rfl #[.int .i64 t386, .agg #[.int .i64 t388, .int .i64 t389, .int .i64 t390]] rfl (by (try simp only [List.map_toArray, List.map_cons, List.map_nil]); first | done | rfl | (simp only [List.length_drop, List.length_take]; rfl)) ?_; (with_reducible refine (spec_SayText.calls t386 t388 t389 t390 t392 _ A5.out).mono ?_); rintro e w10 ⟨rfl, hb⟩; refine ⟨_, rfl, ?_⟩; have n0_ := Aside0.mk (IsS79.below (by repeat (first | (with_reducible first | exact HI385.out | apply IsS79.alloc | apply IsS79.drewN | apply IsS79.drew | apply IsS79.set_1) | exact HI385.out)) hb); have n1_ := Aside0.mk (below_step (by repeat (first | (with_reducible first | exact HB.out | apply below_alloc | apply pw_below_drewN | apply below_drew1 | refine below_set ?_ (IsS79.ge HI385.out)) | exact HB.out)) hb); clear HI385 HB; have HI385 := n0_; have HB := n1_; clear n0_ n1_; (try clear hb); (try clear hb2); (try clear hk); (try clear hi)))
  (try simp only [Act.put, List.setIfInBounds_toArray, List.set_cons_zero, List.set_cons_succ])
  go_cut [24] (fun v24 wc => ∃ (kq : Nat) (x24_5 : Bool) (x386001_5 : Int), v24 = .bool x24_5 ∧ Aside0 (spec_DrawReadSay.j0 kq t386 t392 x24_5 t383 x386001_5 = some (r1, r2)) ∧ Aside0 (kq ≤ k) ∧ Aside0 (IsS79 w wc g385 t383 x386001_5) ∧ Aside0 (Below w.heap.size w wc))
  case first =>
    have H := HC6.out; clear HC6
    replace H := Option.bind_eq_some_iff.mp H
    obtain ⟨⟨t393, t394⟩, A110, H⟩ := H
    replace H : (if t393 = 0 then (spec_DrawReadSay.j0 k t386 t392 (decide ((t392.size : Int) > 0)) t383 t394) else (spec_DrawReadSay.j0 k t386 t392 false t383 t394)) = some (r1, r2) := H
    have A11 := Aside0.mk A110; clear A110
    by_cases c12 : t393 = 0
    · rw [if_pos c12] at H
      have c12b0 : (t393 == 0) = true := beq_iff_eq.mpr c12
      have c12b1 : (t393 != 0) = false := bne_eq_false_iff_eq.mpr c12; clear c12
      (first | rw [c12b0] | (simp only [i64_w, i32_w]; rw [c12b0]) | skip)
      have H' := Aside0.mk H; clear H
      go_wp2_with (first | ((with_reducible refine gate_callee (f := 61) rfl ?_); refine goesL_ (some 18) rfl rfl Try.func61 (by kernel_rfl) rfl #[.pointer (some ⟨g385, 0, none⟩), .int .i64 3] rfl (by (try simp only [List.map_toArray, List.map_cons, List.map_nil]); first | done | rfl | (simp only [List.length_drop, List.length_take]; rfl)) ?_; (with_reducible refine (spec_l20Rd_pick.calls k g385 t383 t391 3 t393 t394 w _ ?side1 ?side2 A11.out).mono ?_); (case side1 => repeat (first | (with_reducible first | exact HI385.out | apply IsS79.alloc | apply IsS79.drewN | apply IsS79.drew | apply IsS79.set_1) | exact HI385.out)); (case side2 => repeat (first | (with_reducible first | exact HB.out | apply below_alloc | apply pw_below_drewN | apply below_drew1 | refine below_set ?_ (IsS79.ge HI385.out)) | exact HB.out)); rintro e w13 ⟨rfl, hi, hb, hk⟩; refine ⟨_, rfl, ?_⟩; have n0_ := Aside0.mk (hb); have n1_ := Aside0.mk (hi); clear HB HI385; have HB := n0_; have HI385 := n1_; clear n0_ n1_; (try clear hb); (try clear hb2); (try clear hk); (try clear hi)))
      go_meet
      case rel => exact ⟨_, (decide ((t392.size : Int) > 0)), (t394), (by first | rfl | (simp; done) | (simp [*]; done)), H', ⟨by first | omega | exact Nat.le_refl _⟩, ⟨by repeat (first | (with_reducible first | exact HI385.out | apply IsS79.alloc | apply IsS79.drewN | apply IsS79.drew | apply IsS79.set_1) | exact HI385.out)⟩, ⟨by repeat (first | (with_reducible first | exact HB.out | apply below_alloc | apply pw_below_drewN | apply below_drew1 | refine below_set ?_ (IsS79.ge HI385.out)) | exact HB.out)⟩⟩
    · rw [if_neg c12] at H
      have c12b0 : (t393 == 0) = false := beq_eq_false_iff_ne.mpr c12
      have c12b1 : (t393 != 0) = true := bne_iff_ne.mpr c12
      (first | rw [c12b0] | (simp only [i64_w, i32_w]; rw [c12b0]) | skip)
      have H' := Aside0.mk H; clear H
      go_wp2_with (first | ((with_reducible refine gate_callee (f := 61) rfl ?_); refine goesL_ (some 18) rfl rfl Try.func61 (by kernel_rfl) rfl #[.pointer (some ⟨g385, 0, none⟩), .int .i64 3] rfl (by (try simp only [List.map_toArray, List.map_cons, List.map_nil]); first | done | rfl | (simp only [List.length_drop, List.length_take]; rfl)) ?_; (with_reducible refine (spec_l20Rd_pick.calls k g385 t383 t391 3 t393 t394 w _ ?side1 ?side2 A11.out).mono ?_); (case side1 => repeat (first | (with_reducible first | exact HI385.out | apply IsS79.alloc | apply IsS79.drewN | apply IsS79.drew | apply IsS79.set_1) | exact HI385.out)); (case side2 => repeat (first | (with_reducible first | exact HB.out | apply below_alloc | apply pw_below_drewN | apply below_drew1 | refine below_set ?_ (IsS79.ge HI385.out)) | exact HB.out)); rintro e w14 ⟨rfl, hi, hb, hk⟩; refine ⟨_, rfl, ?_⟩; have n0_ := Aside0.mk (hb); have n1_ := Aside0.mk (hi); clear HB HI385; have HB := n0_; have HI385 := n1_; clear n0_ n1_; (try clear hb); (try clear hb2); (try clear hk); (try clear hi)))
      go_meet
      case rel => exact ⟨_, (false), (t394), (by first | rfl | (simp; done) | (simp [*]; done)), H', ⟨by first | omega | exact Nat.le_refl _⟩, ⟨by repeat (first | (with_reducible first | exact HI385.out | apply IsS79.alloc | apply IsS79.drewN | apply IsS79.drew | apply IsS79.set_1) | exact HI385.out)⟩, ⟨by repeat (first | (with_reducible first | exact HB.out | apply below_alloc | apply pw_below_drewN | apply below_drew1 | refine below_set ?_ (IsS79.ge HI385.out)) | exact HB.out)⟩⟩
  case rest =>
    clear HC6
    try clear c1
    try clear c2
    try clear p2
    try clear c3
    try clear c5
    try clear c6
    try clear c12
    try clear c12b0
    try clear c12b1
    obtain ⟨kq, x24_5, x386001_5, rfl, HA, HJ5, HI385, HB⟩ := hcut
    cases kq with
    | zero => exact absurd HA.out (by simp [spec_DrawReadSay.j0])
    | succ kj5 =>
      have H := HA.out; clear HA
      simp only [spec_DrawReadSay.j0] at H
      by_cases c15 : x24_5 = true
      · subst c15
        have H1 : ((spec_l20Rd_pick.f kj5 t383 x386001_5 (t392.size : Int)).bind fun bt395 => (if 0 ≤ bt395.1 then (if bt395.1 ≤ (t392.size : Int) then ((some (([(⟨#[]⟩ : ByteArray), (⟨#[99]⟩ : ByteArray), (⟨#[32]⟩ : ByteArray), (⟨#[110, 111, 110, 45]⟩ : ByteArray)] : List ByteArray) : List ByteArray)).bind fun y397 => ((spec_l20Rd_pick.f kj5 t383 bt395.2 4).bind fun bt400 => (if 0 ≤ bt400.1 then (if bt400.1 < (y397.length : Int) then (if (t392.extract 0 (bt395.1 : Int).toNat).size + (rdOf ByteArray.empty y397 bt400.1).size ≤ 9223372036854775807 then (if 0 ≤ (wrap64 (bt395.1 + 1)) then (if (wrap64 (bt395.1 + 1)) ≤ (t392.size : Int) then (if ((t392.extract 0 (bt395.1 : Int).toNat) ++ (rdOf ByteArray.empty y397 bt400.1)).size + (t392.extract ((wrap64 (bt395.1 + 1)) : Int).toNat t392.size).size ≤ 9223372036854775807 then (some (t386, ((t392.extract 0 (bt395.1 : Int).toNat) ++ (rdOf ByteArray.empty y397 bt400.1)) ++ (t392.extract ((wrap64 (bt395.1 + 1)) : Int).toNat t392.size))) else (none)) else (none)) else (none)) else (none)) else (none)) else (none)))) else (none)) else (none))) = some (r1, r2) := by rw [if_pos rfl] at H; exact H
        clear H; have H := H1; clear H1
        replace H := Option.bind_eq_some_iff.mp H
        obtain ⟨⟨t395, t396⟩, A160, H⟩ := H
        replace H : (if 0 ≤ t395 then (if t395 ≤ (t392.size : Int) then ((some (([(⟨#[]⟩ : ByteArray), (⟨#[99]⟩ : ByteArray), (⟨#[32]⟩ : ByteArray), (⟨#[110, 111, 110, 45]⟩ : ByteArray)] : List ByteArray) : List ByteArray)).bind fun y397 => ((spec_l20Rd_pick.f kj5 t383 t396 4).bind fun bt400 => (if 0 ≤ bt400.1 then (if bt400.1 < (y397.length : Int) then (if (t392.extract 0 (t395 : Int).toNat).size + (rdOf ByteArray.empty y397 bt400.1).size ≤ 9223372036854775807 then (if 0 ≤ (wrap64 (t395 + 1)) then (if (wrap64 (t395 + 1)) ≤ (t392.size : Int) then (if ((t392.extract 0 (t395 : Int).toNat) ++ (rdOf ByteArray.empty y397 bt400.1)).size + (t392.extract ((wrap64 (t395 + 1)) : Int).toNat t392.size).size ≤ 9223372036854775807 then (some (t386, ((t392.extract 0 (t395 : Int).toNat) ++ (rdOf ByteArray.empty y397 bt400.1)) ++ (t392.extract ((wrap64 (t395 + 1)) : Int).toNat t392.size))) else (none)) else (none)) else (none)) else (none)) else (none)) else (none)))) else (none)) else (none)) = some (r1, r2) := H
        have A16 := Aside0.mk A160; clear A160
        by_cases c17 : 0 ≤ t395
        · rw [if_pos c17] at H
          have c17b0 := eq_true c17
          have c17b1 : decide (0 ≤ t395) = true := decide_eq_true c17; clear c17
          by_cases c18 : t395 ≤ (t392.size : Int)
          · rw [if_pos c18] at H
            have c18b0 := eq_true c18
            have c18b1 : decide (t395 ≤ (t392.size : Int)) = true := decide_eq_true c18; clear c18
            obtain ⟨y397, hy397⟩ : ∃ y_ : List ByteArray, y_ = (([(⟨#[]⟩ : ByteArray), (⟨#[99]⟩ : ByteArray), (⟨#[32]⟩ : ByteArray), (⟨#[110, 111, 110, 45]⟩ : ByteArray)] : List ByteArray)) := ⟨_, rfl⟩
            replace H : ((spec_l20Rd_pick.f kj5 t383 t396 4).bind fun bt400 => (if 0 ≤ bt400.1 then (if bt400.1 < (y397.length : Int) then (if (t392.extract 0 (t395 : Int).toNat).size + (rdOf ByteArray.empty y397 bt400.1).size ≤ 9223372036854775807 then (if 0 ≤ (wrap64 (t395 + 1)) then (if (wrap64 (t395 + 1)) ≤ (t392.size : Int) then (if ((t392.extract 0 (t395 : Int).toNat) ++ (rdOf ByteArray.empty y397 bt400.1)).size + (t392.extract ((wrap64 (t395 + 1)) : Int).toNat t392.size).size ≤ 9223372036854775807 then (some (t386, ((t392.extract 0 (t395 : Int).toNat) ++ (rdOf ByteArray.empty y397 bt400.1)) ++ (t392.extract ((wrap64 (t395 + 1)) : Int).toNat t392.size))) else (none)) else (none)) else (none)) else (none)) else (none)) else (none))) = some (r1, r2) := by first | (rw [hy397]; with_reducible exact H) | (have H2_ := (Option.bind_some _ _).symm.trans H; rw [hy397]; with_reducible exact H2_) | (have H2_ := (Option.bind_some _ _).symm.trans H; with_reducible exact H2_) | with_reducible exact H | (rw [hy397]; exact H) | exact H
            have Ny397 := Aside0.mk hy397; clear hy397
            replace H := Option.bind_eq_some_iff.mp H
            obtain ⟨⟨t400, t401⟩, A190, H⟩ := H
            replace H : (if 0 ≤ t400 then (if t400 < (y397.length : Int) then (if (t392.extract 0 (t395 : Int).toNat).size + (rdOf ByteArray.empty y397 t400).size ≤ 9223372036854775807 then (if 0 ≤ (wrap64 (t395 + 1)) then (if (wrap64 (t395 + 1)) ≤ (t392.size : Int) then (if ((t392.extract 0 (t395 : Int).toNat) ++ (rdOf ByteArray.empty y397 t400)).size + (t392.extract ((wrap64 (t395 + 1)) : Int).toNat t392.size).size ≤ 9223372036854775807 then (some (t386, ((t392.extract 0 (t395 : Int).toNat) ++ (rdOf ByteArray.empty y397 t400)) ++ (t392.extract ((wrap64 (t395 + 1)) : Int).toNat t392.size))) else (none)) else (none)) else (none)) else (none)) else (none)) else (none)) = some (r1, r2) := H
            have A19 := Aside0.mk A190; clear A190
            by_cases c20 : 0 ≤ t400
            · rw [if_pos c20] at H
              have c20b0 : decide (0 ≤ t400) = true := decide_eq_true c20; clear c20
              by_cases c21 : t400 < (y397.length : Int)
              · rw [if_pos c21] at H
                have c21b0 : decide (t400 < (y397.length : Int)) = true := decide_eq_true c21; clear c21
                by_cases c22 : (t392.extract 0 (t395 : Int).toNat).size + (rdOf ByteArray.empty y397 t400).size ≤ 9223372036854775807
                · rw [if_pos c22] at H
                  have c22b0 := eq_true c22
                  have c22b1 : decide ((t392.extract 0 (t395 : Int).toNat).size + (rdOf ByteArray.empty y397 t400).size ≤ 9223372036854775807) = true := decide_eq_true c22
                  try have c22b2 : (9223372036854775807 < (t392.extract 0 (t395 : Int).toNat).size + (rdOf ByteArray.empty y397 t400).size) = False := eq_false (Nat.not_lt.2 c22)
                  have zl0 : (⟨#[110, 111, 110, 45]⟩ : ByteArray).size = 4 := rfl
                  have zl1 : (⟨#[32]⟩ : ByteArray).size = 1 := rfl
                  have zl2 : (⟨#[99]⟩ : ByteArray).size = 1 := rfl
                  have zl3 : (⟨#[]⟩ : ByteArray).size = 0 := rfl; have c22n := c22
                  (try simp only [ByteArray.size_append, zl0, zl1, zl2, zl3, Nat.reduceAdd] at c22n)
                  (try have c22n0 := eq_true c22n)
                  (try have c22n1 := decide_eq_true c22n)
                  (try have c22n2 := eq_false (Nat.not_lt.2 c22n)); clear zl0 zl1 zl2 zl3
                  obtain ⟨ji23, hji23⟩ : ∃ j_ : Int, (wrap64 (t395 + 1)) = j_ := ⟨_, rfl⟩
                  replace H : (if 0 ≤ (ji23) then (if (ji23) ≤ (t392.size : Int) then (if ((t392.extract 0 (t395 : Int).toNat) ++ (rdOf ByteArray.empty y397 t400)).size + (t392.extract ((ji23) : Int).toNat t392.size).size ≤ 9223372036854775807 then (some (t386, ((t392.extract 0 (t395 : Int).toNat) ++ (rdOf ByteArray.empty y397 t400)) ++ (t392.extract ((ji23) : Int).toNat t392.size))) else (none)) else (none)) else (none)) = some (r1, r2) := by first | (rw [hji23] at H; exact H) | (simp only [hji23] at H ⊢; exact H)
                  (try rw [hji23] at A16)
                  (try rw [hji23] at A19)
                  have hji23w : (IntKind.i64.wrap (t395 + 1)) = ji23 := (i64_w _).trans hji23
                  by_cases c24 : 0 ≤ (ji23)
                  · rw [if_pos c24] at H
                    have c24b0 := eq_true c24
                    have c24b1 : decide (0 ≤ (ji23)) = true := decide_eq_true c24; clear c24
                    by_cases c25 : (ji23) ≤ (t392.size : Int)
                    · rw [if_pos c25] at H
                      have c25b0 := eq_true c25
                      have c25b1 : decide ((ji23) ≤ (t392.size : Int)) = true := decide_eq_true c25; clear c25
                      by_cases c26 : ((t392.extract 0 (t395 : Int).toNat) ++ (rdOf ByteArray.empty y397 t400)).size + (t392.extract ((ji23) : Int).toNat t392.size).size ≤ 9223372036854775807
                      · rw [if_pos c26] at H
                        have c26b0 := eq_true c26
                        have c26b1 : decide (((t392.extract 0 (t395 : Int).toNat) ++ (rdOf ByteArray.empty y397 t400)).size + (t392.extract ((ji23) : Int).toNat t392.size).size ≤ 9223372036854775807) = true := decide_eq_true c26
                        try have c26b2 : (9223372036854775807 < ((t392.extract 0 (t395 : Int).toNat) ++ (rdOf ByteArray.empty y397 t400)).size + (t392.extract ((ji23) : Int).toNat t392.size).size) = False := eq_false (Nat.not_lt.2 c26)
                        have zl0 : (⟨#[110, 111, 110, 45]⟩ : ByteArray).size = 4 := rfl
                        have zl1 : (⟨#[32]⟩ : ByteArray).size = 1 := rfl
                        have zl2 : (⟨#[99]⟩ : ByteArray).size = 1 := rfl
                        have zl3 : (⟨#[]⟩ : ByteArray).size = 0 := rfl; have c26n := c26
                        (try simp only [ByteArray.size_append, zl0, zl1, zl2, zl3, Nat.reduceAdd] at c26n)
                        (try have c26n0 := eq_true c26n)
                        (try have c26n1 := decide_eq_true c26n)
                        (try have c26n2 := eq_false (Nat.not_lt.2 c26n)); clear zl0 zl1 zl2 zl3
                        simp only [Option.some.injEq, Prod.mk.injEq] at H
                        obtain ⟨rfl, rfl⟩ := H
                        try go_wp2_with (first | ((with_reducible refine gate_callee (f := 61) rfl ?_); refine goesL_ (some 28) rfl rfl Try.func61 (by kernel_rfl) rfl #[.pointer (some ⟨g385, 0, none⟩), .int .i64 (t392.size : Int)] rfl (by (try simp only [List.map_toArray, List.map_cons, List.map_nil]); first | done | rfl | (simp only [List.length_drop, List.length_take]; rfl)) ?_; (with_reducible refine (spec_l20Rd_pick.calls kj5 g385 t383 x386001_5 (t392.size : Int) t395 t396 w _ ?side1 ?side2 A16.out).mono ?_); (case side1 => repeat (first | (with_reducible first | exact HI385.out | apply IsS79.alloc | apply IsS79.drewN | apply IsS79.drew | apply IsS79.set_1) | exact HI385.out)); (case side2 => repeat (first | (with_reducible first | exact HB.out | apply below_alloc | apply pw_below_drewN | apply below_drew1 | refine below_set ?_ (IsS79.ge HI385.out)) | exact HB.out)); rintro e w27 ⟨rfl, hi, hb, hk⟩; refine ⟨_, rfl, ?_⟩; have n0_ := Aside0.mk (hb); have n1_ := Aside0.mk (hi); clear HB HI385; have HB := n0_; have HI385 := n1_; clear n0_ n1_; (try clear hb); (try clear hb2); (try clear hk); (try clear hi)))
                        have pi402 : (0 ≤ (t400 : Int)) = True := eq_true (of_decide_eq_true (by first | (with_reducible assumption) | assumption))
                        have qi402 : (t400 < (y397.length : Int)) = True := eq_true (of_decide_eq_true (by first | (with_reducible assumption) | assumption)); have n0_ := Aside0.mk (IsS79.drew HI385.out); have n1_ := Aside0.mk (below_drew1 HB.out); clear HI385 HB; have HI385 := n0_; have HB := n1_; clear n0_ n1_
                        refine start_ (n := 17) (S := fun w' => True) (ds := []) #[false, false, false, false, false, false, false, false, false, false, false, false, false, false, false, false, false] (by kernel_rfl) rfl rfl trivial (fun hHeld => ?_); refine with_tabW spec_DrawReadSay.tab6 spec_DrawReadSay.bits6 (fun HT_ HW_ => ?_)
                        generalize w27.drew = w28 at HI385 HB hHeld ⊢
                        refine pure_ (i := 0) (N := some 29) (v := ?_) (a' := ?_) #[true, false, false, false, false, false, false, false, false, false, false, false, false, false, false, false, false] rfl rfl (any_of HT_.out (by kernel_rfl)) (fun _ _ _ h => h) (Or.inl ⟨by rfl, ?_⟩) ?_ ?_; rotate_left
                        · intro w'
                          go_simp
                          with_reducible rfl
                        rotate_left
                        · simp only [Act.put, List.setIfInBounds_toArray, List.set_cons_zero, List.set_cons_succ, i64_w, i32_w]
                          rfl
                        refine pure_ (i := 1) (N := some 30) (v := ?_) (a' := ?_) #[true, true, false, false, false, false, false, false, false, false, false, false, false, false, false, false, false] rfl rfl (any_of HT_.out (by kernel_rfl)) (fun _ _ _ h => h) (Or.inl ⟨by rfl, ?_⟩) ?_ ?_; rotate_left
                        · intro w'
                          go_simp
                          with_reducible rfl
                        rotate_left
                        · simp only [Act.put, List.setIfInBounds_toArray, List.set_cons_zero, List.set_cons_succ, i64_w, i32_w]
                          rfl
                        refine pure_ (i := 2) (N := some 31) (v := ?_) (a' := ?_) #[true, true, true, false, false, false, false, false, false, false, false, false, false, false, false, false, false] rfl rfl (any_of HT_.out (by kernel_rfl)) (fun _ _ _ h => h) (Or.inl ⟨by rfl, ?_⟩) ?_ ?_; rotate_left
                        · intro w'
                          go_simp
                          with_reducible rfl
                        rotate_left
                        · simp only [Act.put, List.setIfInBounds_toArray, List.set_cons_zero, List.set_cons_succ, i64_w, i32_w]
                          rfl
                        refine pure_ (i := 5) (N := some 34) (v := ?_) (a' := ?_) #[true, true, true, false, false, true, false, false, false, false, false, false, false, false, false, false, false] rfl rfl (any_of HT_.out (by kernel_rfl)) (fun _ _ _ h => h) (Or.inl ⟨by rfl, ?_⟩) ?_ ?_; rotate_left
                        · intro w'
                          go_simp
                          with_reducible rfl
                        rotate_left
                        · simp only [Act.put, List.setIfInBounds_toArray, List.set_cons_zero, List.set_cons_succ, i64_w, i32_w]
                          rfl
                        refine pure_ (i := 10) (N := some 39) (v := ?_) (a' := ?_) #[true, true, true, false, false, true, false, false, false, false, true, false, false, false, false, false, false] rfl rfl (any_of HT_.out (by kernel_rfl)) (fun _ _ _ h => h) (Or.inl ⟨by rfl, ?_⟩) ?_ ?_; rotate_left
                        · intro w'
                          go_simp
                          with_reducible rfl
                        rotate_left
                        · simp only [Act.put, List.setIfInBounds_toArray, List.set_cons_zero, List.set_cons_succ, i64_w, i32_w]
                          rfl
                        refine pure_ (i := 11) (N := some 40) (v := ?_) (a' := ?_) #[true, true, true, false, false, true, false, false, false, false, true, true, false, false, false, false, false] rfl rfl (any_of HT_.out (by kernel_rfl)) (fun _ _ _ h => h) (Or.inl ⟨by rfl, ?_⟩) ?_ ?_; rotate_left
                        · intro w'
                          go_simp
                          with_reducible rfl
                        rotate_left
                        · simp only [Act.put, List.setIfInBounds_toArray, List.set_cons_zero, List.set_cons_succ, i64_w, i32_w]
                          rfl
                        refine inv_at [3, 4, 6, 7, 8, 9, 12, 13, 14, 15, 16] (fun a0_ b a w' => ∃ (v398 : Value) (adz_v398 : Addr) (m7_ : Value), a = putSel a0_ b [(3, 32, .string (t392.extract 0 (t395 : Int).toNat)), (4, 33, v398), (6, 35, .int .i64 t400), (7, 36, m7_), (8, 37, .string (rdOf ByteArray.empty y397 t400)), (9, 38, .string ((t392.extract 0 (t395 : Int).toNat) ++ (rdOf ByteArray.empty y397 t400))), (12, 41, .int .i64 ji23), (13, 42, .string (t392.extract ((ji23) : Int).toNat t392.size)), (14, 43, .string (((t392.extract 0 (t395 : Int).toNat) ++ (rdOf ByteArray.empty y397 t400)) ++ (t392.extract ((ji23) : Int).toNat t392.size))), (15, 2, .int .i64 t386), (16, 3, .string (((t392.extract 0 (t395 : Int).toNat) ++ (rdOf ByteArray.empty y397 t400)) ++ (t392.extract ((ji23) : Int).toNat t392.size)))] ∧ (b 6 = false → IsS79 w w' g385 t383 t396) ∧ (Below w.heap.size w w') ∧ (b 4 = true → Kd.R Kd.string 9 w' w.heap.size (fun _ => True) v398 y397) ∧ (b 4 = true → ∃ c_, (v398 : Value) = .slice (some adz_v398) y397.length c_) ∧ (b 6 = true → IsS79 w w' g385 t383 t401) ∧ (b 7 = true → (m7_ : Value) = .pointer (some (adz_v398.add (t400).toNat)))) HT_.out HW_.out (by kernel_rfl) (by kernel_rfl) ?_ ?_ ?_
                        · exact ⟨.bool false, ⟨0, 0, none⟩, .bool false, by simp only [putSel, Bool.false_eq_true, if_false], fun _ => HI385.out, HB.out, fun h_ => absurd h_ (by decide), fun h_ => absurd h_ (by decide), fun h_ => absurd h_ (by decide), fun h_ => absurd h_ (by decide)⟩
                        · skip; clear HB HI385
                          refine steps_cons ?_ ?_
                          · rintro b a w' ⟨v398, adz_v398, m7_, ha, Q_HI385, Q_HB, Q_HO399, Q_HA_HO399, Q_HI385_e6, Q_X7_⟩ hb_ hon hoff
                            refine ⟨_, rfl, fun K hK => ?_⟩
                            have e30 : a.tmps[30]? = some (.string t392) := by rw [ha]; exact (putSel_off rfl).trans rfl
                            have e31 : a.tmps[31]? = some (.int .i64 t395) := by rw [ha]; exact (putSel_off rfl).trans rfl
                            replace ha := Aside0.mk ha
                            have HB := Aside0.mk Q_HB
                            refine value_ (w1 := w') (v := .string (t392.extract 0 (t395 : Int).toNat)) (by rfl) rfl ?_ ?_
                            · go_simp
                              (try simp only [i64_w])
                              try rfl
                              all_goals (have zl0 : (⟨#[110, 111, 110, 45]⟩ : ByteArray).size = 4 := rfl; have zl1 : (⟨#[32]⟩ : ByteArray).size = 1 := rfl; have zl2 : (⟨#[99]⟩ : ByteArray).size = 1 := rfl; have zl3 : (⟨#[]⟩ : ByteArray).size = 0 := rfl; (try simp only [ByteArray.size_append, ByteArray.size_extract, zl0, zl1, zl2, zl3] at c22); (try simp only [ByteArray.size_append, ByteArray.size_extract, zl0, zl1, zl2, zl3] at c26); (try simp only [ByteArray.size_append, ByteArray.size_extract, zl0, zl1, zl2, zl3]); (try have h_c17 := of_eq_true c17b0); (try have h_c18 := of_eq_true c18b0); (try have h_c24 := of_eq_true c24b0); (try have h_c25 := of_eq_true c25b0); omega)
                            refine hK.out _ _ ⟨v398, adz_v398, m7_, (by rw [ha.out]; exact putSel_upk 0 hb_ rfl rfl rfl), Q_HI385, Q_HB, Q_HO399, Q_HA_HO399, Q_HI385_e6, Q_X7_⟩
                          refine steps_cons ?_ ?_
                          · rintro b a w' ⟨v398, adz_v398, m7_, ha, Q_HI385, Q_HB, Q_HO399, Q_HA_HO399, Q_HI385_e6, Q_X7_⟩ hb_ hon hoff
                            refine ⟨_, rfl, fun K hK => ?_⟩
                            replace ha := Aside0.mk ha
                            have HB := Aside0.mk Q_HB
                            refine Kd.R_lit_step Kd.string _ 9 ?hg (N := 33) ?hd (xs := ([(⟨#[]⟩ : ByteArray), (⟨#[99]⟩ : ByteArray), (⟨#[32]⟩ : ByteArray), (⟨#[110, 111, 110, 45]⟩ : ByteArray)] : List ByteArray)) (inner := [.string (⟨#[]⟩ : ByteArray), .string (⟨#[99]⟩ : ByteArray), .string (⟨#[32]⟩ : ByteArray), .string (⟨#[110, 111, 110, 45]⟩ : ByteArray)]) (ok := fun _ => True) (okp := fun _ => True) ?hr ?hp (fun _ hk => hk) trivial (Below.refl _ _) (Nat.le_refl _) (by simp) ?_; (case hd => rfl); (case hg => rfl); (case hr => first | (go_simp; done) | (go_simp; rfl)); (case hp => exact (Reps.one (show Kd.M Kd.string _ _ _ (⟨#[]⟩ : ByteArray) [.string (⟨#[]⟩ : ByteArray)] from rfl) (Reps.one (show Kd.M Kd.string _ _ _ (⟨#[99]⟩ : ByteArray) [.string (⟨#[99]⟩ : ByteArray)] from rfl) (Reps.one (show Kd.M Kd.string _ _ _ (⟨#[32]⟩ : ByteArray) [.string (⟨#[32]⟩ : ByteArray)] from rfl) (Reps.one (show Kd.M Kd.string _ _ _ (⟨#[110, 111, 110, 45]⟩ : ByteArray) [.string (⟨#[110, 111, 110, 45]⟩ : ByteArray)] from rfl) (Reps.none _ _)))))); intro v398 w29 ho30 hb hg_ hnew_; clear hg_ hnew_
                            (first | rw [← Ny397.out] at ho30 | (simp only [Int.reduceToNat] at ho30; rw [← Ny397.out] at ho30)); have n0_ := Aside0.mk (Kd.R_lower ho30 (below_size (by repeat (first | (with_reducible first | exact HB.out | apply below_alloc | apply pw_below_drewN | apply below_drew1) | exact HB.out)))); have n2_ := Aside0.mk (below_step (by repeat (first | (with_reducible first | exact HB.out | apply below_alloc | apply pw_below_drewN | apply below_drew1) | exact HB.out)) hb)
                            have z_HI385 := fun (h0_ : b 6 = false) => (show IsS79 w w29 g385 t383 t396 from by first | exact (IsS79.below (by repeat (first | (with_reducible first | exact (Q_HI385 h0_) | apply IsS79.alloc | apply IsS79.drewN | apply IsS79.drew | apply IsS79.set_1) | exact (Q_HI385 h0_))) hb))
                            have z_HI385_e6 := fun (h0_ : b 6 = true) => (show IsS79 w w29 g385 t383 t401 from by first | exact (IsS79.below (by repeat (first | (with_reducible first | exact (Q_HI385_e6 h0_) | apply IsS79.alloc | apply IsS79.drewN | apply IsS79.drew | apply IsS79.set_1) | exact (Q_HI385_e6 h0_))) hb))
                            clear HB; have HO399 := n0_; have HB := n2_; clear n0_ n2_ hb ho30
                            obtain ⟨Ao31, co31, eo31⟩ := Kd.R_slice HO399.out; subst eo31
                            obtain ⟨ado31, fo31, _⟩ := Kd.at_string (Kd.R_reads' HO399.out).2.2 0 (by decide) (by rw [Ny397.out]; simp)
                            cases fo31
                            refine hK.out _ _ ⟨.slice (some ado31) y397.length co31, ado31, m7_, (by rw [ha.out]; exact putSel_upk 1 hb_ rfl rfl rfl), z_HI385, (by repeat (first | (with_reducible first | exact HB.out | apply below_alloc | apply pw_below_drewN | apply below_drew1) | exact HB.out)), fun _ => (by (with_reducible repeat (first | apply Kd.R_alloc | apply Kd.R_drewN | apply Kd.R_drew)); exact HO399.out), fun _ => ⟨_, rfl⟩, z_HI385_e6, fun h0_ => absurd ((hoff 7 (by kernel_rfl)).symm.trans h0_) (by decide)⟩
                          refine steps_cons ?_ ?_
                          · rintro b a w' ⟨v398, adz_v398, m7_, ha, Q_HI385, Q_HB, Q_HO399, Q_HA_HO399, Q_HI385_e6, Q_X7_⟩ hb_ hon hoff
                            refine ⟨_, rfl, fun K hK => ?_⟩
                            have e34 : a.tmps[34]? = some (.pointer (some ⟨g385, 0, none⟩)) := by rw [ha]; exact (putSel_off rfl).trans rfl
                            replace ha := Aside0.mk ha; have HI385 := Aside0.mk (Q_HI385 hb_)
                            have HB := Aside0.mk Q_HB
                            refine goes_ Try.func61 (by kernel_rfl) rfl #[.pointer (some ⟨g385, 0, none⟩), .int .i64 4] (by rfl) rfl rfl (by first | (simp only [List.map_toArray, List.map_cons, List.map_nil, Act.eval, Array.getD_eq_getD_getElem?, Option.getD_some, e34]; done) | (simp only [List.map_toArray, List.map_cons, List.map_nil, Act.eval, Array.getD_eq_getD_getElem?, Option.getD_some, e34]; rfl)) ?_
                            with_reducible refine (spec_l20Rd_pick.calls kj5 g385 t383 t396 4 t400 t401 w _ ?side1 ?side2 A19.out).mono ?_
                            (case side1 => repeat (first | (with_reducible first | exact HI385.out | apply IsS79.alloc | apply IsS79.drewN | apply IsS79.drew | apply IsS79.set_1) | exact HI385.out))
                            (case side2 => repeat (first | (with_reducible first | exact HB.out | apply below_alloc | apply pw_below_drewN | apply below_drew1 | refine below_set ?_ (IsS79.ge HI385.out)) | exact HB.out))
                            rintro e w29 ⟨rfl, hi, hb, hk⟩
                            refine ⟨_, rfl, ?_⟩; have n0_ := Aside0.mk (hb); have n1_ := Aside0.mk (hi)
                            have z_HO399 := fun (h0_ : b 4 = true) => (show Kd.R Kd.string 9 w29 w.heap.size (fun _ => True) v398 y397 from by first | exact (Kd.R_mono (Kd.R_keep (IsS79.apart (show IsS79 w _ g385 t383 t396 from by repeat (first | (with_reducible first | exact HI385.out | apply IsS79.alloc | apply IsS79.drewN | apply IsS79.drew | apply IsS79.set_1) | exact HI385.out)) (by (with_reducible repeat (first | apply Kd.R_alloc | apply Kd.R_drewN | apply Kd.R_drew)); exact (Q_HO399 h0_)) (by decide)) hk (fun _ h => h.2)) (fun _ h => h.1)) | exact Kd.R_mono (Kd.R_mono (Kd.R_keep (IsS79.apart (show IsS79 w _ g385 t383 t396 from by repeat (first | (with_reducible first | exact HI385.out | apply IsS79.alloc | apply IsS79.drewN | apply IsS79.drew | apply IsS79.set_1) | exact HI385.out)) (by (with_reducible repeat (first | apply Kd.R_alloc | apply Kd.R_drewN | apply Kd.R_drew)); exact (Q_HO399 h0_)) (by decide)) hk (fun _ h => h.2)) (fun _ h => h.1)) (fun _ h_ => by first | trivial | exact h_ | exact h_.1))
                            clear HB HI385; have HB := n0_; have HI385 := n1_; clear n0_ n1_
                            (try clear hb)
                            (try clear hb2)
                            (try clear hk)
                            (try clear hi)
                            refine hK.out _ _ ⟨v398, adz_v398, m7_, (by rw [ha.out]; exact putSel_upk 2 hb_ rfl rfl rfl), fun h0_ => absurd ((up_self b 6).symm.trans h0_) (by decide), (by repeat (first | (with_reducible first | exact HB.out | apply below_alloc | apply pw_below_drewN | apply below_drew1 | refine below_set ?_ (IsS79.ge HI385.out)) | exact HB.out)), z_HO399, Q_HA_HO399, fun _ => (by repeat (first | (with_reducible first | exact HI385.out | apply IsS79.alloc | apply IsS79.drewN | apply IsS79.drew | apply IsS79.set_1) | exact HI385.out)), fun h0_ => absurd ((hoff 7 (by kernel_rfl)).symm.trans h0_) (by decide)⟩
                          refine steps_cons ?_ ?_
                          · rintro b a w' ⟨v398, adz_v398, m7_, ha, Q_HI385, Q_HB, Q_HO399, Q_HA_HO399, Q_HI385_e6, Q_X7_⟩ hb_ hon hoff
                            refine ⟨_, rfl, fun K hK => ?_⟩
                            have e33 : a.tmps[33]? = some (v398) := by rw [ha]; exact putSel_on (e := (4, 33, v398)) 1 rfl rfl (hon 4 (by kernel_rfl)) rfl
                            have e35 : a.tmps[35]? = some (.int .i64 t400) := by rw [ha]; exact putSel_on (e := (6, 35, .int .i64 t400)) 2 rfl rfl (hon 6 (by kernel_rfl)) rfl
                            replace ha := Aside0.mk ha
                            have HB := Aside0.mk Q_HB; have HO399 := Aside0.mk (Q_HO399 (hon 4 (by kernel_rfl))); have HA_HO399 := Aside0.mk (Q_HA_HO399 (hon 4 (by kernel_rfl))); have HI385 := Aside0.mk (Q_HI385_e6 (hon 6 (by kernel_rfl)))
                            obtain ⟨c_, hv_⟩ := HA_HO399.out
                            rw [hv_] at e33
                            refine value_ (w1 := w') (v := .pointer (some (adz_v398.add (t400).toNat))) (by rfl) rfl ?_ ?_
                            · go_simp
                              (try simp only [i64_w])
                              try rfl
                              all_goals (have zl0 : (⟨#[110, 111, 110, 45]⟩ : ByteArray).size = 4 := rfl; have zl1 : (⟨#[32]⟩ : ByteArray).size = 1 := rfl; have zl2 : (⟨#[99]⟩ : ByteArray).size = 1 := rfl; have zl3 : (⟨#[]⟩ : ByteArray).size = 0 := rfl; (try simp only [ByteArray.size_append, ByteArray.size_extract, zl0, zl1, zl2, zl3] at c22); (try simp only [ByteArray.size_append, ByteArray.size_extract, zl0, zl1, zl2, zl3] at c26); (try simp only [ByteArray.size_append, ByteArray.size_extract, zl0, zl1, zl2, zl3]); (try have h_c17 := of_eq_true c17b0); (try have h_c18 := of_eq_true c18b0); (try have h_c24 := of_eq_true c24b0); (try have h_c25 := of_eq_true c25b0); omega)
                            refine hK.out _ _ ⟨v398, adz_v398, (.pointer (some (adz_v398.add (t400).toNat))), (by rw [ha.out]; exact putSel_upk 3 hb_ rfl rfl rfl), fun h0_ => absurd ((hon 6 (by kernel_rfl)).symm.trans h0_) (by decide), Q_HB, Q_HO399, Q_HA_HO399, Q_HI385_e6, fun _ => rfl⟩
                          refine steps_cons ?_ ?_
                          · rintro b a w' ⟨v398, adz_v398, m7_, ha, Q_HI385, Q_HB, Q_HO399, Q_HA_HO399, Q_HI385_e6, Q_X7_⟩ hb_ hon hoff
                            refine ⟨_, rfl, fun K hK => ?_⟩
                            have e36 : a.tmps[36]? = some (m7_) := by rw [ha]; exact putSel_on (e := (7, 36, m7_)) 3 rfl rfl (hon 7 (by kernel_rfl)) rfl
                            rw [Q_X7_ (hon 7 (by kernel_rfl))] at e36
                            replace ha := Aside0.mk ha
                            have HB := Aside0.mk Q_HB; have HO399 := Aside0.mk (Q_HO399 (hon 4 (by kernel_rfl))); have HA_HO399 := Aside0.mk (Q_HA_HO399 (hon 4 (by kernel_rfl))); have HI385 := Aside0.mk (Q_HI385_e6 (hon 6 (by kernel_rfl)))
                            obtain ⟨c_, hv_⟩ := HA_HO399.out; have hF_ := HO399.out
                            rw [hv_] at hF_
                            obtain ⟨ad_, ea_, hx_⟩ := Kd.at_string (Kd.R_reads' hF_).2.2 t400 (of_eq_true pi402) (of_eq_true qi402)
                            cases ea_
                            refine value_ (w1 := w') (v := .string (rdOf ByteArray.empty y397 t400)) (by rfl) rfl ?_ ?_
                            · go_simp
                              (try simp only [i64_w])
                              try rfl
                              all_goals (have zl0 : (⟨#[110, 111, 110, 45]⟩ : ByteArray).size = 4 := rfl; have zl1 : (⟨#[32]⟩ : ByteArray).size = 1 := rfl; have zl2 : (⟨#[99]⟩ : ByteArray).size = 1 := rfl; have zl3 : (⟨#[]⟩ : ByteArray).size = 0 := rfl; (try simp only [ByteArray.size_append, ByteArray.size_extract, zl0, zl1, zl2, zl3] at c22); (try simp only [ByteArray.size_append, ByteArray.size_extract, zl0, zl1, zl2, zl3] at c26); (try simp only [ByteArray.size_append, ByteArray.size_extract, zl0, zl1, zl2, zl3]); (try have h_c17 := of_eq_true c17b0); (try have h_c18 := of_eq_true c18b0); (try have h_c24 := of_eq_true c24b0); (try have h_c25 := of_eq_true c25b0); omega)
                            refine hK.out _ _ ⟨v398, adz_v398, m7_, (by rw [ha.out]; exact putSel_upk 4 hb_ rfl rfl rfl), fun h0_ => absurd ((hon 6 (by kernel_rfl)).symm.trans h0_) (by decide), Q_HB, Q_HO399, Q_HA_HO399, Q_HI385_e6, Q_X7_⟩
                          refine steps_cons ?_ ?_
                          · rintro b a w' ⟨v398, adz_v398, m7_, ha, Q_HI385, Q_HB, Q_HO399, Q_HA_HO399, Q_HI385_e6, Q_X7_⟩ hb_ hon hoff
                            refine ⟨_, rfl, fun K hK => ?_⟩
                            have e32 : a.tmps[32]? = some (.string (t392.extract 0 (t395 : Int).toNat)) := by rw [ha]; exact putSel_on (e := (3, 32, .string (t392.extract 0 (t395 : Int).toNat))) 0 rfl rfl (hon 3 (by kernel_rfl)) rfl
                            have e37 : a.tmps[37]? = some (.string (rdOf ByteArray.empty y397 t400)) := by rw [ha]; exact putSel_on (e := (8, 37, .string (rdOf ByteArray.empty y397 t400))) 4 rfl rfl (hon 8 (by kernel_rfl)) rfl
                            replace ha := Aside0.mk ha
                            have HB := Aside0.mk Q_HB; have HO399 := Aside0.mk (Q_HO399 (hon 4 (by kernel_rfl))); have HA_HO399 := Aside0.mk (Q_HA_HO399 (hon 4 (by kernel_rfl))); have HI385 := Aside0.mk (Q_HI385_e6 (hon 6 (by kernel_rfl)))
                            refine value_ (w1 := w') (v := .string ((t392.extract 0 (t395 : Int).toNat) ++ (rdOf ByteArray.empty y397 t400))) (by rfl) rfl ?_ ?_
                            · go_simp
                              (try simp only [i64_w])
                              try rfl
                              all_goals (have zl0 : (⟨#[110, 111, 110, 45]⟩ : ByteArray).size = 4 := rfl; have zl1 : (⟨#[32]⟩ : ByteArray).size = 1 := rfl; have zl2 : (⟨#[99]⟩ : ByteArray).size = 1 := rfl; have zl3 : (⟨#[]⟩ : ByteArray).size = 0 := rfl; (try simp only [ByteArray.size_append, ByteArray.size_extract, zl0, zl1, zl2, zl3] at c22); (try simp only [ByteArray.size_append, ByteArray.size_extract, zl0, zl1, zl2, zl3] at c26); (try simp only [ByteArray.size_append, ByteArray.size_extract, zl0, zl1, zl2, zl3]); (try have h_c17 := of_eq_true c17b0); (try have h_c18 := of_eq_true c18b0); (try have h_c24 := of_eq_true c24b0); (try have h_c25 := of_eq_true c25b0); omega)
                            refine hK.out _ _ ⟨v398, adz_v398, m7_, (by rw [ha.out]; exact putSel_upk 5 hb_ rfl rfl rfl), fun h0_ => absurd ((hon 6 (by kernel_rfl)).symm.trans h0_) (by decide), Q_HB, Q_HO399, Q_HA_HO399, Q_HI385_e6, Q_X7_⟩
                          refine steps_cons ?_ ?_
                          · rintro b a w' ⟨v398, adz_v398, m7_, ha, Q_HI385, Q_HB, Q_HO399, Q_HA_HO399, Q_HI385_e6, Q_X7_⟩ hb_ hon hoff
                            refine ⟨_, rfl, fun K hK => ?_⟩
                            have e40 : a.tmps[40]? = some (.int .i64 t395) := by rw [ha]; exact (putSel_off rfl).trans rfl
                            replace ha := Aside0.mk ha
                            have HB := Aside0.mk Q_HB
                            refine value_ (w1 := w') (v := .int .i64 ji23) (by rfl) rfl ?_ ?_
                            · go_simp
                              (try simp only [i64_w])
                              try rfl
                              all_goals (have zl0 : (⟨#[110, 111, 110, 45]⟩ : ByteArray).size = 4 := rfl; have zl1 : (⟨#[32]⟩ : ByteArray).size = 1 := rfl; have zl2 : (⟨#[99]⟩ : ByteArray).size = 1 := rfl; have zl3 : (⟨#[]⟩ : ByteArray).size = 0 := rfl; (try simp only [ByteArray.size_append, ByteArray.size_extract, zl0, zl1, zl2, zl3] at c22); (try simp only [ByteArray.size_append, ByteArray.size_extract, zl0, zl1, zl2, zl3] at c26); (try simp only [ByteArray.size_append, ByteArray.size_extract, zl0, zl1, zl2, zl3]); (try have h_c17 := of_eq_true c17b0); (try have h_c18 := of_eq_true c18b0); (try have h_c24 := of_eq_true c24b0); (try have h_c25 := of_eq_true c25b0); omega)
                            refine hK.out _ _ ⟨v398, adz_v398, m7_, (by rw [ha.out]; exact putSel_upk 6 hb_ rfl rfl rfl), Q_HI385, Q_HB, Q_HO399, Q_HA_HO399, Q_HI385_e6, Q_X7_⟩
                          refine steps_cons ?_ ?_
                          · rintro b a w' ⟨v398, adz_v398, m7_, ha, Q_HI385, Q_HB, Q_HO399, Q_HA_HO399, Q_HI385_e6, Q_X7_⟩ hb_ hon hoff
                            refine ⟨_, rfl, fun K hK => ?_⟩
                            have e39 : a.tmps[39]? = some (.string t392) := by rw [ha]; exact (putSel_off rfl).trans rfl
                            have e41 : a.tmps[41]? = some (.int .i64 ji23) := by rw [ha]; exact putSel_on (e := (12, 41, .int .i64 ji23)) 6 rfl rfl (hon 12 (by kernel_rfl)) rfl
                            replace ha := Aside0.mk ha
                            have HB := Aside0.mk Q_HB
                            refine value_ (w1 := w') (v := .string (t392.extract ((ji23) : Int).toNat t392.size)) (by rfl) rfl ?_ ?_
                            · go_simp
                              (try simp only [i64_w])
                              try rfl
                              all_goals (have zl0 : (⟨#[110, 111, 110, 45]⟩ : ByteArray).size = 4 := rfl; have zl1 : (⟨#[32]⟩ : ByteArray).size = 1 := rfl; have zl2 : (⟨#[99]⟩ : ByteArray).size = 1 := rfl; have zl3 : (⟨#[]⟩ : ByteArray).size = 0 := rfl; (try simp only [ByteArray.size_append, ByteArray.size_extract, zl0, zl1, zl2, zl3] at c22); (try simp only [ByteArray.size_append, ByteArray.size_extract, zl0, zl1, zl2, zl3] at c26); (try simp only [ByteArray.size_append, ByteArray.size_extract, zl0, zl1, zl2, zl3]); (try have h_c17 := of_eq_true c17b0); (try have h_c18 := of_eq_true c18b0); (try have h_c24 := of_eq_true c24b0); (try have h_c25 := of_eq_true c25b0); omega)
                            refine hK.out _ _ ⟨v398, adz_v398, m7_, (by rw [ha.out]; exact putSel_upk 7 hb_ rfl rfl rfl), Q_HI385, Q_HB, Q_HO399, Q_HA_HO399, Q_HI385_e6, Q_X7_⟩
                          refine steps_cons ?_ ?_
                          · rintro b a w' ⟨v398, adz_v398, m7_, ha, Q_HI385, Q_HB, Q_HO399, Q_HA_HO399, Q_HI385_e6, Q_X7_⟩ hb_ hon hoff
                            refine ⟨_, rfl, fun K hK => ?_⟩
                            have e38 : a.tmps[38]? = some (.string ((t392.extract 0 (t395 : Int).toNat) ++ (rdOf ByteArray.empty y397 t400))) := by rw [ha]; exact putSel_on (e := (9, 38, .string ((t392.extract 0 (t395 : Int).toNat) ++ (rdOf ByteArray.empty y397 t400)))) 5 rfl rfl (hon 9 (by kernel_rfl)) rfl
                            have e42 : a.tmps[42]? = some (.string (t392.extract ((ji23) : Int).toNat t392.size)) := by rw [ha]; exact putSel_on (e := (13, 42, .string (t392.extract ((ji23) : Int).toNat t392.size))) 7 rfl rfl (hon 13 (by kernel_rfl)) rfl
                            replace ha := Aside0.mk ha
                            have HB := Aside0.mk Q_HB; have HO399 := Aside0.mk (Q_HO399 (hon 4 (by kernel_rfl))); have HA_HO399 := Aside0.mk (Q_HA_HO399 (hon 4 (by kernel_rfl))); have HI385 := Aside0.mk (Q_HI385_e6 (hon 6 (by kernel_rfl)))
                            refine value_ (w1 := w') (v := .string (((t392.extract 0 (t395 : Int).toNat) ++ (rdOf ByteArray.empty y397 t400)) ++ (t392.extract ((ji23) : Int).toNat t392.size))) (by rfl) rfl ?_ ?_
                            · go_simp
                              (try simp only [i64_w])
                              try rfl
                              all_goals (have zl0 : (⟨#[110, 111, 110, 45]⟩ : ByteArray).size = 4 := rfl; have zl1 : (⟨#[32]⟩ : ByteArray).size = 1 := rfl; have zl2 : (⟨#[99]⟩ : ByteArray).size = 1 := rfl; have zl3 : (⟨#[]⟩ : ByteArray).size = 0 := rfl; (try simp only [ByteArray.size_append, ByteArray.size_extract, zl0, zl1, zl2, zl3] at c22); (try simp only [ByteArray.size_append, ByteArray.size_extract, zl0, zl1, zl2, zl3] at c26); (try simp only [ByteArray.size_append, ByteArray.size_extract, zl0, zl1, zl2, zl3]); (try have h_c17 := of_eq_true c17b0); (try have h_c18 := of_eq_true c18b0); (try have h_c24 := of_eq_true c24b0); (try have h_c25 := of_eq_true c25b0); omega)
                            refine hK.out _ _ ⟨v398, adz_v398, m7_, (by rw [ha.out]; exact putSel_upk 8 hb_ rfl rfl rfl), fun h0_ => absurd ((hon 6 (by kernel_rfl)).symm.trans h0_) (by decide), Q_HB, Q_HO399, Q_HA_HO399, Q_HI385_e6, Q_X7_⟩
                          refine steps_cons ?_ ?_
                          · rintro b a w' ⟨v398, adz_v398, m7_, ha, Q_HI385, Q_HB, Q_HO399, Q_HA_HO399, Q_HI385_e6, Q_X7_⟩ hb_ hon hoff
                            refine ⟨_, rfl, fun K hK => ?_⟩
                            have e29 : a.tmps[29]? = some (.int .i64 t386) := by rw [ha]; exact (putSel_off rfl).trans rfl
                            replace ha := Aside0.mk ha
                            have HB := Aside0.mk Q_HB; have HI385 := Aside0.mk (Q_HI385_e6 (hon 6 (by kernel_rfl)))
                            refine value_ (w1 := w') (v := .int .i64 t386) (by rfl) rfl ?_ ?_
                            · go_simp
                              (try simp only [i64_w])
                              try rfl
                              all_goals (have zl0 : (⟨#[110, 111, 110, 45]⟩ : ByteArray).size = 4 := rfl; have zl1 : (⟨#[32]⟩ : ByteArray).size = 1 := rfl; have zl2 : (⟨#[99]⟩ : ByteArray).size = 1 := rfl; have zl3 : (⟨#[]⟩ : ByteArray).size = 0 := rfl; (try simp only [ByteArray.size_append, ByteArray.size_extract, zl0, zl1, zl2, zl3] at c22); (try simp only [ByteArray.size_append, ByteArray.size_extract, zl0, zl1, zl2, zl3] at c26); (try simp only [ByteArray.size_append, ByteArray.size_extract, zl0, zl1, zl2, zl3]); (try have h_c17 := of_eq_true c17b0); (try have h_c18 := of_eq_true c18b0); (try have h_c24 := of_eq_true c24b0); (try have h_c25 := of_eq_true c25b0); omega)
                            refine hK.out _ _ ⟨v398, adz_v398, m7_, (by rw [ha.out]; exact putSel_upk 9 hb_ rfl rfl rfl), fun h0_ => absurd ((hon 6 (by kernel_rfl)).symm.trans h0_) (by decide), Q_HB, Q_HO399, Q_HA_HO399, Q_HI385_e6, Q_X7_⟩
                          refine steps_cons ?_ ?_
                          · rintro b a w' ⟨v398, adz_v398, m7_, ha, Q_HI385, Q_HB, Q_HO399, Q_HA_HO399, Q_HI385_e6, Q_X7_⟩ hb_ hon hoff
                            refine ⟨_, rfl, fun K hK => ?_⟩
                            have e43 : a.tmps[43]? = some (.string (((t392.extract 0 (t395 : Int).toNat) ++ (rdOf ByteArray.empty y397 t400)) ++ (t392.extract ((ji23) : Int).toNat t392.size))) := by rw [ha]; exact putSel_on (e := (14, 43, .string (((t392.extract 0 (t395 : Int).toNat) ++ (rdOf ByteArray.empty y397 t400)) ++ (t392.extract ((ji23) : Int).toNat t392.size)))) 8 rfl rfl (hon 14 (by kernel_rfl)) rfl
                            replace ha := Aside0.mk ha
                            have HB := Aside0.mk Q_HB; have HO399 := Aside0.mk (Q_HO399 (hon 4 (by kernel_rfl))); have HA_HO399 := Aside0.mk (Q_HA_HO399 (hon 4 (by kernel_rfl))); have HI385 := Aside0.mk (Q_HI385_e6 (hon 6 (by kernel_rfl)))
                            refine value_ (w1 := w') (v := .string (((t392.extract 0 (t395 : Int).toNat) ++ (rdOf ByteArray.empty y397 t400)) ++ (t392.extract ((ji23) : Int).toNat t392.size))) (by rfl) rfl ?_ ?_
                            · go_simp
                              (try simp only [i64_w])
                              try rfl
                              all_goals (have zl0 : (⟨#[110, 111, 110, 45]⟩ : ByteArray).size = 4 := rfl; have zl1 : (⟨#[32]⟩ : ByteArray).size = 1 := rfl; have zl2 : (⟨#[99]⟩ : ByteArray).size = 1 := rfl; have zl3 : (⟨#[]⟩ : ByteArray).size = 0 := rfl; (try simp only [ByteArray.size_append, ByteArray.size_extract, zl0, zl1, zl2, zl3] at c22); (try simp only [ByteArray.size_append, ByteArray.size_extract, zl0, zl1, zl2, zl3] at c26); (try simp only [ByteArray.size_append, ByteArray.size_extract, zl0, zl1, zl2, zl3]); (try have h_c17 := of_eq_true c17b0); (try have h_c18 := of_eq_true c18b0); (try have h_c24 := of_eq_true c24b0); (try have h_c25 := of_eq_true c25b0); omega)
                            refine hK.out _ _ ⟨v398, adz_v398, m7_, (by rw [ha.out]; exact putSel_upk 10 hb_ rfl rfl rfl), fun h0_ => absurd ((hon 6 (by kernel_rfl)).symm.trans h0_) (by decide), Q_HB, Q_HO399, Q_HA_HO399, Q_HI385_e6, Q_X7_⟩
                          exact steps_nil
                        rintro b a w33 hall ⟨v398, adz_v398, m7_, ha, Q_HI385, Q_HB, Q_HO399, Q_HA_HO399, Q_HI385_e6, Q_X7_⟩; clear HB HI385
                        have hb3_ := hall 3 (by kernel_rfl)
                        have hb4_ := hall 4 (by kernel_rfl)
                        have hb6_ := hall 6 (by kernel_rfl)
                        have hb7_ := hall 7 (by kernel_rfl)
                        have hb8_ := hall 8 (by kernel_rfl)
                        have hb9_ := hall 9 (by kernel_rfl)
                        have hb12_ := hall 12 (by kernel_rfl)
                        have hb13_ := hall 13 (by kernel_rfl)
                        have hb14_ := hall 14 (by kernel_rfl)
                        have hb15_ := hall 15 (by kernel_rfl)
                        have hb16_ := hall 16 (by kernel_rfl); subst ha
                        obtain rfl := Q_X7_ hb7_
                        simp only [putSel, hb3_, hb4_, hb6_, hb7_, hb8_, hb9_, hb12_, hb13_, hb14_, hb15_, hb16_, if_true, Act.put, List.setIfInBounds_toArray, List.set_cons_zero, List.set_cons_succ]; clear Q_HI385
                        have HB := Aside0.mk Q_HB; clear Q_HB; have HO399 := Aside0.mk (Q_HO399 hb4_); clear Q_HO399; have HA_HO399 := Aside0.mk (Q_HA_HO399 hb4_); clear Q_HA_HO399; have HI385 := Aside0.mk (Q_HI385_e6 hb6_); clear Q_HI385_e6 hall hb3_ hb4_ hb6_ hb7_ hb8_ hb9_ hb12_ hb13_ hb14_ hb15_ hb16_
                        obtain ⟨co34, eo34⟩ := HA_HO399.out; clear HA_HO399; subst eo34
                        try go_wp2
                        go_ret2
                        exact ⟨by first | rfl | (simp [errW_none, errW_some] <;> rfl) | (simp only [← hji23]; first | rfl | (simp [errW_none, errW_some] <;> rfl)) | (simp [*, errW_none, errW_some] <;> rfl), by repeat (first | (with_reducible first | exact HB.out | apply below_alloc | apply pw_below_drewN | apply below_drew1 | refine below_set ?_ (IsS79.ge HI385.out)) | exact HB.out)⟩
                      · rw [if_neg c26] at H
                        exact absurd H (by simp)
                    · rw [if_neg c25] at H
                      exact absurd H (by simp)
                  · rw [if_neg c24] at H
                    exact absurd H (by simp)
                · rw [if_neg c22] at H
                  exact absurd H (by simp)
              · rw [if_neg c21] at H
                exact absurd H (by simp)
            · rw [if_neg c20] at H
              exact absurd H (by simp)
          · rw [if_neg c18] at H
            exact absurd H (by simp)
        · rw [if_neg c17] at H
          exact absurd H (by simp)
      · replace c15 := Bool.eq_false_iff.mpr c15; subst c15
        have H1 : (some (t386, t392)) = some (r1, r2) := by rw [if_neg (show ¬ (false = true) by decide)] at H; exact H
        clear H; have H := H1; clear H1
        simp only [Option.some.injEq, Prod.mk.injEq] at H
        obtain ⟨rfl, rfl⟩ := H
        go_wp2
        go_ret2
        exact ⟨by first | rfl | (simp [errW_none, errW_some] <;> rfl) | (simp [*, errW_none, errW_some] <;> rfl), by repeat (first | (with_reducible first | exact HB.out | apply below_alloc | apply pw_below_drewN | apply below_drew1 | refine below_set ?_ (IsS79.ge HI385.out)) | exact HB.out)⟩

end Go.Proofs.Ytainbbpmaengjaa.PA
