/- The closures of chapter 3 and impl.moreDo, fewerDo, fewerAre, insideNot, splitOf, BothOf; no condition but that the rows can be read and have 21 entries at least. -/
import Derived.Test.YtmeamfkjfpaciaaManStays
import Derived.Test.YtmeamfkjfpaciaaPAx13
namespace Go.Proofs.Ytmeamfkjfpaciaa.Man
open Go.RowKit Go.Proofs.Ytmeamfkjfpaciaa.PA Go.Proofs.YtmeamfkjfpaciaaW.PrintWords Go.Proofs.YtmeamfkjfpaciaaW.PrintLast Go.Proofs.YtmeamfkjfpaciaaW.PrintMore
set_option linter.unusedVariables false
set_option linter.unusedSimpArgs false

/-- The closures' answers. -/
def moP (l : List Int) (a s : Nat) : Bool := decide (s = a) || hB l a (s + 1)
def feP (l : List Int) (a s : Nat) : Bool := decide (s = 0) || hB l a (s - 1)
def faP (l : List Int) (a s : Nat) : Bool := (decide (s = 0) || hB l (a - 1) (s - 1)) && (decide (s = a) || hB l (a - 1) s)
def inP (l : List Int) (a s : Nat) : Bool := hB l a (a - s)
def boP (l m : List Int) (a s : Nat) : Bool := hB l a s && hB m a s
theorem holdsH (A : Option Addr) (c : Nat) (l : List Int) (W : World) (r : Kd.C (Kd.int .i64) W A l.length l) (x y : Int) (a s : Nat) (hx : x = (a : Int)) (hy : y = (s : Int)) (ha : a ≤ 5) (hs : s ≤ a) (hl : 21 ≤ l.length) :
    Calls Try.prog 34 #[.slice A l.length c, .int .i64 x, .int .i64 y] W fun e w' => e = .returned (.bool (hB l a s)) ∧ Below W.heap.size W w' := holdsC A c l W r x y a s hx hy ha hs hl
set_option maxHeartbeats 2000000 in
set_option maxRecDepth 100000 in
set_option maxHeartbeats 2000000 in
set_option maxRecDepth 100000 in
set_option maxHeartbeats 2000000 in
set_option maxRecDepth 100000 in
theorem in1 (B : Nat) (A : Option Addr) (c : Nat) (l : List Int) (W : World) (hbk : W.heap[B]? = some (.cells #[.slice A l.length c] 23 (0, 0))) (r : Kd.C (Kd.int .i64) W A l.length l) (x y : Int) (a s : Nat) (hx : x = (a : Int)) (hy : y = (s : Int)) (ha : a ≤ 5) (hs : s ≤ a) (hl : 21 ≤ l.length) :
    Calls Try.prog 68 #[.int .i64 x, .int .i64 y, .pointer (some ⟨B, 0, none⟩)] W fun e w' => e = .returned (.bool (inP l a s)) ∧ Below W.heap.size W w' := by
  have hc0 : W.cell? ⟨B, 0, none⟩ = some (.slice A l.length c) := (blk_cell hbk 0).trans rfl
  have R := Aside0.mk r
  have BK := Aside0.mk hbk
  have HB0 := Aside0.mk (Below.refl W.heap.size W)
  have HP := Aside0.mk (fun W r => holdsH A c l W r x (wrap64 (x - y)) a (a - s) hx (by unfold wrap64; omega) ha (by omega) hl)
  have HQ := Aside0.mk (show inP l a s = hB l a (a - s) from rfl)
  clear hbk r hx hy ha hs hl
  go_enter Try.func68, Try.ntmps68
  go_wp2_with (first | (go_at_call 34; refine (HP.out _ R.out).mono ?_; rintro e w2 ⟨rfl, hb_⟩; have HB2 := Aside0.mk hb_; have hc2 : w2.cell? ⟨B, 0, none⟩ = some (.slice A l.length c) := (blk_cell (blk_below BK.out HB2.out) 0).trans rfl; have R2 := Aside0.mk (Kd.C_below R.out HB2.out); clear hb_))
  go_ret
  exact ⟨by rw [HQ.out]; rfl, HB2.out⟩
set_option maxHeartbeats 2000000 in
set_option maxRecDepth 100000 in
theorem fa1 (B : Nat) (A : Option Addr) (c : Nat) (l : List Int) (W : World) (hbk : W.heap[B]? = some (.cells #[.slice A l.length c] 23 (0, 0))) (r : Kd.C (Kd.int .i64) W A l.length l) (x y : Int) (a s : Nat) (hx : x = (a : Int)) (hy : y = (s : Int)) (ha : a ≤ 5) (hs : s ≤ a) (hl : 21 ≤ l.length) :
    Calls Try.prog 57 #[.int .i64 x, .int .i64 y, .pointer (some ⟨B, 0, none⟩)] W fun e w' => e = .returned (.bool (faP l a s)) ∧ Below W.heap.size W w' := by
  have hc0 : W.cell? ⟨B, 0, none⟩ = some (.slice A l.length c) := (blk_cell hbk 0).trans rfl
  have R := Aside0.mk r
  have BK := Aside0.mk hbk
  have HB0 := Aside0.mk (Below.refl W.heap.size W)
  by_cases e0 : s = 0
  · have c1 : (y == 0) = true := beq_iff_eq.mpr (by omega)
    by_cases ea : s = a
    · have c2 : (y == x) = true := beq_iff_eq.mpr (by omega)
      have HQ := Aside0.mk (show faP l a s = true by unfold faP; rw [decide_eq_true e0, decide_eq_true ea]; rfl)
      clear e0 ea
      clear hbk r hx hy ha hs hl
      go_enter Try.func57, Try.ntmps57
      go_wp2
      go_ret
      exact ⟨by rw [HQ.out]; rfl, HB0.out⟩
    · have c2 : (y == x) = false := beq_eq_false_iff_ne.mpr (by omega)
      have HQ := Aside0.mk (show faP l a s = hB l (a - 1) s by unfold faP; rw [decide_eq_true e0, decide_eq_false ea]; rfl)
      have HP2 := Aside0.mk (fun W r => holdsH A c l W r (wrap64 (x - 1)) y (a - 1) s (by unfold wrap64; omega) hy (by omega) (by omega) hl)
      clear e0 ea
      clear hbk r hx hy ha hs hl
      go_enter Try.func57, Try.ntmps57
      go_wp2_with (first | (go_at_call 34; refine (HP2.out _ R.out).mono ?_; rintro e w2 ⟨rfl, hb_⟩; have HB2 := Aside0.mk hb_; have hc2 : w2.cell? ⟨B, 0, none⟩ = some (.slice A l.length c) := (blk_cell (blk_below BK.out HB2.out) 0).trans rfl; have R2 := Aside0.mk (Kd.C_below R.out HB2.out); clear hb_))
      go_ret
      exact ⟨by rw [HQ.out]; rfl, HB2.out⟩
  · have c1 : (y == 0) = false := beq_eq_false_iff_ne.mpr (by omega)
    have HP1 := Aside0.mk (fun W r => holdsH A c l W r (wrap64 (x - 1)) (wrap64 (y - 1)) (a - 1) (s - 1) (by unfold wrap64; omega) (by unfold wrap64; omega) (by omega) (by omega) hl)
    have HD := Aside0.mk (show faP l a s = (hB l (a - 1) (s - 1) && (decide (s = a) || hB l (a - 1) s)) by unfold faP; rw [decide_eq_false e0]; rfl)
    by_cases ea : s = a
    · have c2 : (y == x) = true := beq_iff_eq.mpr (by omega)
      have HE := Aside0.mk (show (decide (s = a) || hB l (a - 1) s) = true by rw [decide_eq_true ea]; rfl)
      generalize hB l (a - 1) (s - 1) = b at HP1 HD
      clear e0 ea
      cases b
      · have HQ := Aside0.mk (show faP l a s = false by rw [HD.out]; rfl)
        clear hbk r hx hy ha hs hl
        go_enter Try.func57, Try.ntmps57
        go_wp2_with (first | (go_at_call 34; refine (HP1.out _ R.out).mono ?_; rintro e w2 ⟨rfl, hb_⟩; have HB2 := Aside0.mk hb_; have hc2 : w2.cell? ⟨B, 0, none⟩ = some (.slice A l.length c) := (blk_cell (blk_below BK.out HB2.out) 0).trans rfl; have R2 := Aside0.mk (Kd.C_below R.out HB2.out); clear hb_))
        go_ret
        exact ⟨by rw [HQ.out]; rfl, HB2.out⟩
      · have HQ := Aside0.mk (show faP l a s = true by rw [HD.out, HE.out]; rfl)
        clear hbk r hx hy ha hs hl
        go_enter Try.func57, Try.ntmps57
        go_wp2_with (first | (go_at_call 34; refine (HP1.out _ R.out).mono ?_; rintro e w2 ⟨rfl, hb_⟩; have HB2 := Aside0.mk hb_; have hc2 : w2.cell? ⟨B, 0, none⟩ = some (.slice A l.length c) := (blk_cell (blk_below BK.out HB2.out) 0).trans rfl; have R2 := Aside0.mk (Kd.C_below R.out HB2.out); clear hb_))
        go_ret
        exact ⟨by rw [HQ.out]; rfl, HB2.out⟩
    · have c2 : (y == x) = false := beq_eq_false_iff_ne.mpr (by omega)
      have HP2 := Aside0.mk (fun W r => holdsH A c l W r (wrap64 (x - 1)) y (a - 1) s (by unfold wrap64; omega) hy (by omega) (by omega) hl)
      have HE := Aside0.mk (show (decide (s = a) || hB l (a - 1) s) = hB l (a - 1) s by rw [decide_eq_false ea]; rfl)
      generalize hB l (a - 1) (s - 1) = b at HP1 HD
      clear e0 ea
      cases b
      · have HQ := Aside0.mk (show faP l a s = false by rw [HD.out]; rfl)
        clear hbk r hx hy ha hs hl
        go_enter Try.func57, Try.ntmps57
        go_wp2_with (first | (go_at_call 34; refine (HP1.out _ R.out).mono ?_; rintro e w2 ⟨rfl, hb_⟩; have HB2 := Aside0.mk hb_; have hc2 : w2.cell? ⟨B, 0, none⟩ = some (.slice A l.length c) := (blk_cell (blk_below BK.out HB2.out) 0).trans rfl; have R2 := Aside0.mk (Kd.C_below R.out HB2.out); clear hb_))
        go_ret
        exact ⟨by rw [HQ.out]; rfl, HB2.out⟩
      · have HQ := Aside0.mk (show faP l a s = hB l (a - 1) s by rw [HD.out, HE.out]; rfl)
        clear hbk r hx hy ha hs hl
        go_enter Try.func57, Try.ntmps57
        go_wp2_with (first | (go_at_call 34; refine (HP2.out _ R2.out).mono ?_; rintro e w3 ⟨rfl, hb_⟩; have HB3 := Aside0.mk (below_step HB2.out hb_); have hc3 : w3.cell? ⟨B, 0, none⟩ = some (.slice A l.length c) := (blk_cell (blk_below BK.out HB3.out) 0).trans rfl; have R3 := Aside0.mk (Kd.C_below R.out HB3.out); clear hb_) | (go_at_call 34; refine (HP1.out _ R.out).mono ?_; rintro e w2 ⟨rfl, hb_⟩; have HB2 := Aside0.mk hb_; have hc2 : w2.cell? ⟨B, 0, none⟩ = some (.slice A l.length c) := (blk_cell (blk_below BK.out HB2.out) 0).trans rfl; have R2 := Aside0.mk (Kd.C_below R.out HB2.out); clear hb_))
        go_ret
        exact ⟨by rw [HQ.out]; rfl, HB3.out⟩
set_option maxHeartbeats 2000000 in
set_option maxRecDepth 100000 in
set_option maxHeartbeats 2000000 in
set_option maxRecDepth 100000 in
set_option maxHeartbeats 2000000 in
set_option maxRecDepth 100000 in
set_option maxHeartbeats 2000000 in
set_option maxRecDepth 100000 in
theorem fewerAre (A : Option Addr) (c : Nat) (l : List Int) (w : World) (hr : Kd.C (Kd.int .i64) w A l.length l) (hl : 21 ≤ l.length) :
    Calls Try.prog 35 #[.slice A l.length c] w fun e w' => e = .returned (.bool (stayB l (faP l))) ∧ Below w.heap.size w w' := by
  have eg := enters_of Try.func57 (by kernel_rfl) rfl
  have HB1 := Aside0.mk (below_alloc (Below.refl w.heap.size w) (.cells #[.slice A l.length c] 23))
  have HBK := Aside0.mk (blk_new w (.cells #[.slice A l.length c] 23))
  have hc1 : (w.alloc (.cells #[.slice A l.length c] 23)).cell? ⟨w.heap.size, 0, none⟩ = some (.slice A l.length c) := (blk_cell HBK.out 0).trans rfl
  have HR := Aside0.mk hr
  clear hr
  have HT := Aside0.mk (fun W (bk : W.heap[w.heap.size]? = some (.cells #[.slice A l.length c] 23 (0, 0))) (hb : Below w.heap.size w W) => stays l (faP l) 57 #[.pointer (some ⟨w.heap.size, 0, none⟩)] eg W A c (Kd.C_below HR.out hb) hl (fun V x y a s hx hy ha hs _ hv =>
    fa1 w.heap.size A c l V (blk_below bk hv) (Kd.C_below HR.out (below_step hb hv)) x y a s hx hy ha hs hl))
  clear eg
  go_enter Try.func35, Try.ntmps35
  go_wp2_with (first | (go_at_call 54; refine (HT.out _ HBK.out HB1.out).mono ?_; rintro e w2 ⟨rfl, hb_⟩; have HB2 := Aside0.mk (below_step HB1.out hb_); clear hb_))
  go_ret
  exact ⟨rfl, HB2.out⟩
set_option maxHeartbeats 2000000 in
set_option maxRecDepth 100000 in
theorem insideNot (A : Option Addr) (c : Nat) (l : List Int) (w : World) (hr : Kd.C (Kd.int .i64) w A l.length l) (hl : 21 ≤ l.length) :
    Calls Try.prog 42 #[.slice A l.length c] w fun e w' => ∃ v, e = .returned v ∧ Kd.R (Kd.int .i64) 3 w' w.heap.size (fun _ => True) v (triRow (inP l)) ∧ Below w.heap.size w w' := by
  have eg := enters_of Try.func68 (by kernel_rfl) rfl
  have HB1 := Aside0.mk (below_alloc (Below.refl w.heap.size w) (.cells #[.slice A l.length c] 23))
  have HBK := Aside0.mk (blk_new w (.cells #[.slice A l.length c] 23))
  have HR := Aside0.mk hr
  clear hr
  have HT := Aside0.mk (fun W (bk : W.heap[w.heap.size]? = some (.cells #[.slice A l.length c] 23 (0, 0))) (hb : Below w.heap.size w W) => triangleBy (inP l) 68 #[.pointer (some ⟨w.heap.size, 0, none⟩)] eg W (fun V x y a s hx hy ha hs hv =>
    in1 w.heap.size A c l V (blk_below bk hv) (Kd.C_below HR.out (below_step hb hv)) x y a s hx hy ha hs hl))
  clear eg
  go_enter Try.func42, Try.ntmps42
  go_wp2_with (first | (go_at_call 32; refine (HT.out _ HBK.out HB1.out).mono ?_; rintro e w2 ⟨v, rfl, hv_, hb_⟩; have HV := Aside0.mk hv_; have HB2 := Aside0.mk (below_step HB1.out hb_); clear hv_ hb_))
  go_ret
  exact ⟨_, rfl, Kd.R_lower HV.out (below_size HB1.out), HB2.out⟩
end Go.Proofs.Ytmeamfkjfpaciaa.Man
