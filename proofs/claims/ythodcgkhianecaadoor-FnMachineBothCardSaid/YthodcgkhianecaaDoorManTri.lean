/- impl.TriangleOf: its closure, triangleBy, the call; no condition but that the rows can be read. -/
import Derived.Test.YthodcgkhianecaaDoorManOrd
import Derived.Test.YthodcgkhianecaaDoorManRep
import Derived.Test.YthodcgkhianecaaDoorSemA
import Derived.Test.YthodcgkhianecaaDoorManTriB
import Derived.Test.YthodcgkhianecaaDoorPAx12
import Derived.Test.YthodcgkhianecaaDoorPAx20
import Derived.Test.YthodcgkhianecaaDoorPAx14
namespace Go.Proofs.YthodcgkhianecaaDoor.Man
open Go.RowKit Go.Proofs.YthodcgkhianecaaDoor.PA Go.Proofs.YthodcgkhianecaaDoorW.PrintWords Go.Proofs.YthodcgkhianecaaDoorW.PrintLast Go.Proofs.YthodcgkhianecaaDoorW.PrintMore
set_option linter.unusedVariables false
set_option linter.unusedSimpArgs false

set_option maxHeartbeats 8000000 in
set_option maxRecDepth 100000 in
theorem tri1 (B : Nat) (A0 A1 A2 : Option Addr) (c0 c1 c2 : Nat) (l0 l1 l2 : List Int) (k : Nat) (W : World) (hbk : W.heap[B]? = some (.cells #[.slice A0 l0.length c0, .slice A1 l1.length c1, .slice A2 l2.length c2] 25 (0, 0)))
    (r0 : Kd.C (Kd.int .i64) W A0 l0.length l0) (r1 : Kd.C (Kd.int .i64) W A1 l1.length l1) (r2 : Kd.C (Kd.int .i64) W A2 l2.length l2) (q : l0.length ≤ c0 ∧ l1.length ≤ c1 ∧ l2.length ≤ c2)
    (x y : Int) (a s : Nat) (hx : x = (a : Int)) (hy : y = (s : Int)) (ha : a ≤ 5) (hs : s ≤ a) (st : Int) (hst : impl_Machine_after.f k l0 l1 l2 (rep 48 (a - s) ++ rep 49 s) = some st) (h0 : 0 ≤ st) (h1 : st < (l2.length : Int)) :
    Calls Tryd.prog 30 #[.int .i64 x, .int .i64 y, .pointer (some ⟨B, 0, none⟩)] W fun e w' => e = .returned (.bool (rd l2 st == 1)) ∧ Below W.heap.size W w' := by
  obtain ⟨ad2, e2, x2⟩ := Kd.at_int r2 st h0 h1
  cases e2
  have hd : wrap64 (x - y) = ((a - s : Nat) : Int) := by unfold wrap64; omega
  have HP0 := Aside0.mk (fun W => (repeats 48 (a - s) W (by omega)))
  have HP1 := Aside0.mk (fun W => (repeats 49 s W (by omega)))
  rw [← hd] at HP0
  rw [← hy] at HP1
  have z0 : (rep 48 (a - s)).size + (rep 49 s).size ≤ 9223372036854775807 := by rw [rep_size, rep_size]; omega
  obtain ⟨za, hza⟩ : ∃ z, z = rep 48 (a - s) := ⟨_, rfl⟩
  obtain ⟨zb, hzb⟩ : ∃ z, z = rep 49 s := ⟨_, rfl⟩
  rw [← hza] at HP0 z0 hst
  rw [← hzb] at HP1 z0 hst
  have z1 := eq_true z0
  have z2 := decide_eq_true z0
  have z3 := eq_false (Nat.not_lt.2 z0)
  have p1 := eq_true h0
  have p2 := eq_true h1
  have p3 := decide_eq_true h0
  have p4 := decide_eq_true h1
  have HS := Aside0.mk hst
  have Q := Aside0.mk q
  have BK := Aside0.mk (blk_drew hbk)
  have R0 := Aside0.mk (Kd.C_drew r0)
  have R1 := Aside0.mk (Kd.C_drew r1)
  have R2 := Aside0.mk (Kd.C_drew r2)
  have XC := Aside0.mk (show W.drew.cell? (ad2.add st.toNat) = some (.int .i64 (rd l2 st)) from x2)
  have HB := Aside0.mk (below_drew1 (Below.refl W.heap.size W))
  clear hbk r0 r1 r2 q hx hy ha hs hst hd hza hzb z0 x2
  go_enter Tryd.func30, Tryd.ntmps30
  go_upto_region 1 with (fail)
  refine start_ (n := 15) (S := fun w' => w'.cell? ⟨B, 0, none⟩ = some (.slice A0 l0.length c0) ∧ w'.cell? ⟨B, 1, none⟩ = some (.slice A1 l1.length c1) ∧ w'.cell? ⟨B, 2, none⟩ = some (.slice (some ad2) l2.length c2) ∧ w'.cell? (ad2.add st.toNat) = some (.int .i64 (rd l2 st))) (ds := []) #[false, false, false, false, false, false, false, false, false, false, false, false, false, false, false] (by kernel_rfl) rfl rfl ⟨(blk_cell BK.out 0).trans rfl, (blk_cell BK.out 1).trans rfl, (blk_cell BK.out 2).trans rfl, XC.out⟩ (fun hHeld => ?_)
  generalize W.drew = wG at BK R0 R1 R2 XC HB hHeld ⊢
  refine pure_ (i := 0) (N := some 6) (v := ?_) (a' := ?_) #[true, false, false, false, false, false, false, false, false, false, false, false, false, false, false] rfl rfl (by kernel_rfl) (fun _ _ _ h => h) (Or.inl ⟨by rfl, ?_⟩) ?_ ?_; rotate_left
  · intro w'
    go_simp
    with_reducible rfl
  rotate_left
  · simp only [Act.put, List.setIfInBounds_toArray, List.set_cons_zero, List.set_cons_succ, i64_w, i32_w]
    rfl
  refine take_ (i := 1) (N := some 7) (v := ?_) (a' := ?_) #[true, true, false, false, false, false, false, false, false, false, false, false, false, false, false] rfl rfl (by kernel_rfl) (fun _ _ _ h => h) (Or.inl ⟨by rfl, ?_⟩) hHeld ?_ ?_; rotate_left
  · rintro w' ⟨s0, s1, s2, s3⟩
    go_simp
    with_reducible rfl
  rotate_left
  · simp only [Act.put, List.setIfInBounds_toArray, List.set_cons_zero, List.set_cons_succ, i64_w, i32_w]
    rfl
  refine take_ (i := 2) (N := some 8) (v := ?_) (a' := ?_) #[true, true, true, false, false, false, false, false, false, false, false, false, false, false, false] rfl rfl (by kernel_rfl) (fun _ _ _ h => h) (Or.inl ⟨by rfl, ?_⟩) hHeld ?_ ?_; rotate_left
  · rintro w' ⟨s0, s1, s2, s3⟩
    go_simp
    with_reducible rfl
  rotate_left
  · simp only [Act.put, List.setIfInBounds_toArray, List.set_cons_zero, List.set_cons_succ, i64_w, i32_w]
    rfl
  refine pure_ (i := 3) (N := some 9) (v := ?_) (a' := ?_) #[true, true, true, true, false, false, false, false, false, false, false, false, false, false, false] rfl rfl (by kernel_rfl) (fun _ _ _ h => h) (Or.inl ⟨by rfl, ?_⟩) ?_ ?_; rotate_left
  · intro w'
    go_simp
    with_reducible rfl
  rotate_left
  · simp only [Act.put, List.setIfInBounds_toArray, List.set_cons_zero, List.set_cons_succ, i64_w, i32_w]
    rfl
  refine pure_ (i := 4) (N := some 10) (v := ?_) (a' := ?_) #[true, true, true, true, true, false, false, false, false, false, false, false, false, false, false] rfl rfl (by kernel_rfl) (fun _ _ _ h => h) (Or.inl ⟨by rfl, ?_⟩) ?_ ?_; rotate_left
  · intro w'
    go_simp
    with_reducible rfl
  rotate_left
  · simp only [Act.put, List.setIfInBounds_toArray, List.set_cons_zero, List.set_cons_succ, i64_w, i32_w]
    rfl
  refine pure_ (i := 5) (N := some 11) (v := ?_) (a' := ?_) #[true, true, true, true, true, true, false, false, false, false, false, false, false, false, false] rfl rfl (by kernel_rfl) (fun _ _ _ h => h) (Or.inl ⟨by rfl, ?_⟩) ?_ ?_; rotate_left
  · intro w'
    go_simp
    with_reducible rfl
  rotate_left
  · simp only [Act.put, List.setIfInBounds_toArray, List.set_cons_zero, List.set_cons_succ, i64_w, i32_w]
    rfl
  refine pure_ (i := 7) (N := some 13) (v := ?_) (a' := ?_) #[true, true, true, true, true, true, false, true, false, false, false, false, false, false, false] rfl rfl (by kernel_rfl) (fun _ _ _ h => h) (Or.inl ⟨by rfl, ?_⟩) ?_ ?_; rotate_left
  · intro w'
    go_simp
    with_reducible rfl
  rotate_left
  · simp only [Act.put, List.setIfInBounds_toArray, List.set_cons_zero, List.set_cons_succ, i64_w, i32_w]
    rfl
  refine one_ (i := 6) (N := some 12) #[true, true, true, true, true, true, true, true, false, false, false, false, false, false, false] rfl rfl (by kernel_rfl) (by decide) (fun K hK => ?_)
  refine goes_ Tryd.func31 (by kernel_rfl) rfl #[.string (⟨#[48]⟩ : ByteArray), .int .i64 (wrap64 (x - y))] (by rfl) rfl rfl (by (try simp only [List.map_toArray, List.map_cons, List.map_nil]); first | done | rfl | (simp only [List.length_drop, List.length_take]; rfl)) ?_
  refine (HP0.out _).mono ?_
  rintro e w1 ⟨rfl, hb_⟩
  refine ⟨_, rfl, ?_⟩
  replace BK := Aside0.mk (blk_below BK.out hb_)
  replace R0 := Aside0.mk (Kd.C_below R0.out hb_)
  replace R1 := Aside0.mk (Kd.C_below R1.out hb_)
  replace R2 := Aside0.mk (Kd.C_below R2.out hb_)
  replace XC := Aside0.mk ((hb_.cell (World.block_lt_of_cell? _ _ XC.out)).trans XC.out)
  replace HB := Aside0.mk (below_step HB.out hb_)
  clear hb_
  refine hK.out _ _ ⟨(blk_cell BK.out 0).trans rfl, (blk_cell BK.out 1).trans rfl, (blk_cell BK.out 2).trans rfl, XC.out⟩ (fun hHeld => ?_); clear hK K
  refine norm_ (a' := ?_) ?_ ?_; rotate_left
  · show Act.put _ (some 12) _ = _
    simp only [Act.put, List.setIfInBounds_toArray, List.set_cons_zero, List.set_cons_succ, i64_w, i32_w]
    rfl
  refine one_ (i := 8) (N := some 14) #[true, true, true, true, true, true, true, true, true, false, false, false, false, false, false] rfl rfl (by kernel_rfl) (by decide) (fun K hK => ?_)
  refine goes_ Tryd.func31 (by kernel_rfl) rfl #[.string (⟨#[49]⟩ : ByteArray), .int .i64 y] (by rfl) rfl rfl (by (try simp only [List.map_toArray, List.map_cons, List.map_nil]); first | done | rfl | (simp only [List.length_drop, List.length_take]; rfl)) ?_
  refine (HP1.out _).mono ?_
  rintro e w2 ⟨rfl, hb_⟩
  refine ⟨_, rfl, ?_⟩
  replace BK := Aside0.mk (blk_below BK.out hb_)
  replace R0 := Aside0.mk (Kd.C_below R0.out hb_)
  replace R1 := Aside0.mk (Kd.C_below R1.out hb_)
  replace R2 := Aside0.mk (Kd.C_below R2.out hb_)
  replace XC := Aside0.mk ((hb_.cell (World.block_lt_of_cell? _ _ XC.out)).trans XC.out)
  replace HB := Aside0.mk (below_step HB.out hb_)
  clear hb_
  refine hK.out _ _ ⟨(blk_cell BK.out 0).trans rfl, (blk_cell BK.out 1).trans rfl, (blk_cell BK.out 2).trans rfl, XC.out⟩ (fun hHeld => ?_); clear hK K
  refine norm_ (a' := ?_) ?_ ?_; rotate_left
  · show Act.put _ (some 14) _ = _
    simp only [Act.put, List.setIfInBounds_toArray, List.set_cons_zero, List.set_cons_succ, i64_w, i32_w]
    rfl
  refine pure_ (i := 9) (N := some 15) (v := ?_) (a' := ?_) #[true, true, true, true, true, true, true, true, true, true, false, false, false, false, false] rfl rfl (by kernel_rfl) (fun _ _ _ h => h) (Or.inl ⟨by rfl, ?_⟩) ?_ ?_; rotate_left
  · intro w'
    go_simp
    with_reducible rfl
  rotate_left
  · simp only [Act.put, List.setIfInBounds_toArray, List.set_cons_zero, List.set_cons_succ, i64_w, i32_w]
    rfl
  refine one_ (i := 10) (N := some 16) #[true, true, true, true, true, true, true, true, true, true, true, false, false, false, false] rfl rfl (by kernel_rfl) (by decide) (fun K hK => ?_)
  refine goes_ Tryd.func24 (by kernel_rfl) rfl #[.agg #[.slice A0 l0.length c0, .slice A1 l1.length c1, .slice (some ad2) l2.length c2], .string (za ++ zb)] (by rfl) rfl rfl (by (try simp only [List.map_toArray, List.map_cons, List.map_nil]); first | done | rfl | (simp only [List.length_drop, List.length_take]; rfl)) ?_
  refine (impl_Machine_after.calls k _ _ l0 _ _ l1 _ _ l2 (za ++ zb) st _ R0.out Q.out.1 R1.out Q.out.2.1 R2.out Q.out.2.2 HS.out).mono ?_
  rintro e w3 ⟨rfl, hb_⟩
  refine ⟨_, rfl, ?_⟩
  replace BK := Aside0.mk (blk_below BK.out hb_)
  replace R0 := Aside0.mk (Kd.C_below R0.out hb_)
  replace R1 := Aside0.mk (Kd.C_below R1.out hb_)
  replace R2 := Aside0.mk (Kd.C_below R2.out hb_)
  replace XC := Aside0.mk ((hb_.cell (World.block_lt_of_cell? _ _ XC.out)).trans XC.out)
  replace HB := Aside0.mk (below_step HB.out hb_)
  clear hb_
  refine hK.out _ _ ⟨(blk_cell BK.out 0).trans rfl, (blk_cell BK.out 1).trans rfl, (blk_cell BK.out 2).trans rfl, XC.out⟩ (fun hHeld => ?_); clear hK K
  refine norm_ (a' := ?_) ?_ ?_; rotate_left
  · show Act.put _ (some 16) _ = _
    simp only [Act.put, List.setIfInBounds_toArray, List.set_cons_zero, List.set_cons_succ, i64_w, i32_w]
    rfl
  refine pure_ (i := 11) (N := some 17) (v := ?_) (a' := ?_) #[true, true, true, true, true, true, true, true, true, true, true, true, false, false, false] rfl rfl (by kernel_rfl) (fun _ _ _ h => h) (Or.inl ⟨by rfl, ?_⟩) ?_ ?_; rotate_left
  · intro w'
    go_simp
    with_reducible rfl
  rotate_left
  · simp only [Act.put, List.setIfInBounds_toArray, List.set_cons_zero, List.set_cons_succ, i64_w, i32_w]
    rfl
  refine take_ (i := 12) (N := some 18) (v := ?_) (a' := ?_) #[true, true, true, true, true, true, true, true, true, true, true, true, true, false, false] rfl rfl (by kernel_rfl) (fun _ _ _ h => h) (Or.inl ⟨by rfl, ?_⟩) hHeld ?_ ?_; rotate_left
  · rintro w' ⟨s0, s1, s2, s3⟩
    go_simp
    with_reducible rfl
  rotate_left
  · simp only [Act.put, List.setIfInBounds_toArray, List.set_cons_zero, List.set_cons_succ, i64_w, i32_w]
    rfl
  refine pure_ (i := 13) (N := some 19) (v := ?_) (a' := ?_) #[true, true, true, true, true, true, true, true, true, true, true, true, true, true, false] rfl rfl (by kernel_rfl) (fun _ _ _ h => h) (Or.inl ⟨by rfl, ?_⟩) ?_ ?_; rotate_left
  · intro w'
    go_simp
    with_reducible rfl
  rotate_left
  · simp only [Act.put, List.setIfInBounds_toArray, List.set_cons_zero, List.set_cons_succ, i64_w, i32_w]
    rfl
  refine pure_ (i := 14) (N := some 5) (v := ?_) (a' := ?_) #[true, true, true, true, true, true, true, true, true, true, true, true, true, true, true] rfl rfl (by kernel_rfl) (fun _ _ _ h => h) (Or.inl ⟨by rfl, ?_⟩) ?_ ?_; rotate_left
  · intro w'
    go_simp
    with_reducible rfl
  rotate_left
  · simp only [Act.put, List.setIfInBounds_toArray, List.set_cons_zero, List.set_cons_succ, i64_w, i32_w]
    rfl
  refine done_ (by kernel_rfl) ?_
  go_wp2
  go_ret
  exact ⟨rfl, HB.out⟩
/-- What TriangleOf answers. -/
def triP (a b c : List Int) (al so : Nat) : Bool := rd c (Sem.stateOf a b (List.replicate (al - so) 48 ++ List.replicate so 49) 0) == 1
def triF (k : Nat) (a b c : List Int) : Option (List Int) := (impl_isMachine.f k a b c).bind fun m => if m = true then ((impl_anyOrder.f k a b c).bind fun o => if o = true then (if Sem.MachOk a b c then some (triRow (triP a b c)) else none) else some []) else some []
theorem triF_mono : ∀ a0 a1 a2 k, LeO (triF k a0 a1 a2) (triF (k + 1) a0 a1 a2) := by
  intro a b c k
  unfold triF
  refine LeO.bind (impl_isMachine.mono _ _ _ _) (fun _ => LeO.ite (LeO.bind (impl_anyOrder.mono _ _ _ _) (fun _ => LeO.refl _)) (LeO.refl _))

set_option maxHeartbeats 8000000 in
set_option maxRecDepth 100000 in
theorem tri (k : Nat) (A0 : Option Addr) (c0 : Nat) (l0 : List Int) (A1 : Option Addr) (c1 : Nat) (l1 : List Int) (A2 : Option Addr) (c2 : Nat) (l2 : List Int) (r : List Int) (w : World)
    (hr0 : Kd.C (Kd.int .i64) w A0 l0.length l0) (hc0 : l0.length ≤ c0) (hr1 : Kd.C (Kd.int .i64) w A1 l1.length l1) (hc1 : l1.length ≤ c1) (hr2 : Kd.C (Kd.int .i64) w A2 l2.length l2) (hc2 : l2.length ≤ c2) (h : triF k l0 l1 l2 = some r) :
    Calls Tryd.prog 10 #[.agg #[.slice A0 l0.length c0, .slice A1 l1.length c1, .slice A2 l2.length c2]] w fun e w' => ∃ v0_ : Value, e = .returned (v0_) ∧ Kd.R (Kd.int .i64) 3 w' w.heap.size (fun _ => True) v0_ r ∧ Below w.heap.size w w' := by
  have eg := enters_of Tryd.func30 (by kernel_rfl) rfl
  unfold triF at h
  obtain ⟨m, hm, h⟩ := Option.bind_eq_some_iff.mp h
  have HB1 := Aside0.mk (below_alloc (Below.refl w.heap.size w) (.cells #[.slice A0 l0.length c0, .slice A1 l1.length c1, .slice A2 l2.length c2] 25))
  have HBK := Aside0.mk (blk_new w (.cells #[.slice A0 l0.length c0, .slice A1 l1.length c1, .slice A2 l2.length c2] 25))
  have HR := Aside0.mk (show Kd.C (Kd.int .i64) w A0 l0.length l0 ∧ Kd.C (Kd.int .i64) w A1 l1.length l1 ∧ Kd.C (Kd.int .i64) w A2 l2.length l2 from ⟨hr0, hr1, hr2⟩)
  have HC := Aside0.mk (show l0.length ≤ c0 ∧ l1.length ≤ c1 ∧ l2.length ≤ c2 from ⟨hc0, hc1, hc2⟩)
  have HM := Aside0.mk (fun W (hb : Below w.heap.size w W) => impl_isMachine.calls k A0 c0 l0 A1 c1 l1 A2 c2 l2 m W (Kd.C_below HR.out.1 hb) HC.out.1 (Kd.C_below HR.out.2.1 hb) HC.out.2.1 (Kd.C_below HR.out.2.2 hb) HC.out.2.2 hm)
  clear hr0 hr1 hr2 hc0 hc1 hc2 hm
  cases m with
  | false =>
    obtain rfl : ([] : List Int) = r := Option.some.inj h
    clear h
    go_enter Tryd.func10, Tryd.ntmps10
    go_wp2_with (first | (go_at_call 22; refine (HM.out _ HB1.out).mono ?_; rintro e w2 ⟨rfl, hb_⟩; have HB2 := Aside0.mk (below_step HB1.out hb_); have BK2 := Aside0.mk (blk_below HBK.out hb_); have cxw20 : w2.cell? ⟨w.heap.size, 0, none⟩ = some (.slice A0 l0.length c0) := (blk_cell BK2.out 0).trans rfl; have cxw21 : w2.cell? ⟨w.heap.size, 1, none⟩ = some (.slice A1 l1.length c1) := (blk_cell BK2.out 1).trans rfl; have cxw22 : w2.cell? ⟨w.heap.size, 2, none⟩ = some (.slice A2 l2.length c2) := (blk_cell BK2.out 2).trans rfl; clear hb_))
    go_ret
    exact ⟨_, rfl, Kd.R_nil _ _ _ _ _, HB2.out⟩
  | true =>
    obtain ⟨o, ho, h⟩ := Option.bind_eq_some_iff.mp h
    have HO := Aside0.mk (fun W (hb : Below w.heap.size w W) => impl_anyOrder.calls k A0 c0 l0 A1 c1 l1 A2 c2 l2 o W (Kd.C_below HR.out.1 hb) HC.out.1 (Kd.C_below HR.out.2.1 hb) HC.out.2.1 (Kd.C_below HR.out.2.2 hb) HC.out.2.2 ho)
    clear ho
    cases o with
    | false =>
      obtain rfl : ([] : List Int) = r := Option.some.inj h
      clear h
      go_enter Tryd.func10, Tryd.ntmps10
      go_wp2_with (first | (go_at_call 22; refine (HM.out _ HB1.out).mono ?_; rintro e w2 ⟨rfl, hb_⟩; have HB2 := Aside0.mk (below_step HB1.out hb_); have BK2 := Aside0.mk (blk_below HBK.out hb_); have cxw20 : w2.cell? ⟨w.heap.size, 0, none⟩ = some (.slice A0 l0.length c0) := (blk_cell BK2.out 0).trans rfl; have cxw21 : w2.cell? ⟨w.heap.size, 1, none⟩ = some (.slice A1 l1.length c1) := (blk_cell BK2.out 1).trans rfl; have cxw22 : w2.cell? ⟨w.heap.size, 2, none⟩ = some (.slice A2 l2.length c2) := (blk_cell BK2.out 2).trans rfl; clear hb_) | (go_at_call 28; refine (HO.out _ HB2.out).mono ?_; rintro e w3 ⟨rfl, hb_⟩; have HB3 := Aside0.mk (below_step HB2.out hb_); have BK3 := Aside0.mk (blk_below BK2.out hb_); clear hb_))
      go_ret
      exact ⟨_, rfl, Kd.R_nil _ _ _ _ _, HB3.out⟩
    | true =>
      by_cases hk : Sem.MachOk l0 l1 l2
      · obtain rfl : triRow (triP l0 l1 l2) = r := by
          have h2 := h
          simp only [if_true] at h2
          rw [if_pos hk] at h2
          exact Option.some.inj h2
        clear h
        have HK := Aside0.mk hk; clear hk
        have HT := Aside0.mk (fun W (bk : W.heap[w.heap.size]? = some (.cells #[.slice A0 l0.length c0, .slice A1 l1.length c1, .slice A2 l2.length c2] 25 (0, 0))) (hb : Below w.heap.size w W) => triangleBy (triP l0 l1 l2) 30 #[.pointer (some ⟨w.heap.size, 0, none⟩)] eg W (fun V x y a s hx hy ha hs hv => by
          have hlist : (rep 48 (a - s) ++ rep 49 s).data.toList = List.replicate (a - s) 48 ++ List.replicate s 49 := by rw [ByteArray.data_append, Array.toList_append]; rfl
          have hsz : (rep 48 (a - s) ++ rep 49 s).size ≤ 2000000 := by rw [ByteArray.size_append, rep_size, rep_size]; omega
          have hn := HK.out.1
          obtain ⟨k2, hk2⟩ := Sem.impl_state_from HK.out (rep 48 (a - s) ++ rep 49 s) hsz (rep 48 (a - s) ++ rep 49 s).data.toList.length 0 0 (by omega) (by omega) (by omega)
          have hst := hk2 k2 (Nat.le_refl _)
          rw [List.drop_zero, hlist] at hst
          have hr := Sem.state_range HK.out (List.replicate (a - s) 48 ++ List.replicate s 49) 0 (by omega) (by omega)
          have hv2 := below_step hb hv
          exact tri1 w.heap.size A0 A1 A2 c0 c1 c2 l0 l1 l2 k2 V (blk_below bk hv) (Kd.C_below HR.out.1 hv2) (Kd.C_below HR.out.2.1 hv2) (Kd.C_below HR.out.2.2 hv2) HC.out x y a s hx hy ha hs _ hst hr.1 (by omega)))
        clear eg
        go_enter Tryd.func10, Tryd.ntmps10
        go_wp2_with (first | (go_at_call 22; refine (HM.out _ HB1.out).mono ?_; rintro e w2 ⟨rfl, hb_⟩; have HB2 := Aside0.mk (below_step HB1.out hb_); have BK2 := Aside0.mk (blk_below HBK.out hb_); have cxw20 : w2.cell? ⟨w.heap.size, 0, none⟩ = some (.slice A0 l0.length c0) := (blk_cell BK2.out 0).trans rfl; have cxw21 : w2.cell? ⟨w.heap.size, 1, none⟩ = some (.slice A1 l1.length c1) := (blk_cell BK2.out 1).trans rfl; have cxw22 : w2.cell? ⟨w.heap.size, 2, none⟩ = some (.slice A2 l2.length c2) := (blk_cell BK2.out 2).trans rfl; clear hb_) | (go_at_call 28; refine (HO.out _ HB2.out).mono ?_; rintro e w3 ⟨rfl, hb_⟩; have HB3 := Aside0.mk (below_step HB2.out hb_); have BK3 := Aside0.mk (blk_below BK2.out hb_); clear hb_) | (go_at_call 29; refine (HT.out _ BK3.out HB3.out).mono ?_; rintro e w4 ⟨v, rfl, hv, hb_⟩; have HV := Aside0.mk hv; have HB4 := Aside0.mk (below_step HB3.out hb_); clear hv hb_))
        go_ret
        exact ⟨_, rfl, Kd.R_lower HV.out (below_size HB3.out), HB4.out⟩
      · exfalso
        simp only [if_true] at h
        rw [if_neg hk] at h
        exact absurd h (by simp)
end Go.Proofs.YthodcgkhianecaaDoor.Man
