/- The closures of chapter 3 and impl.moreDo, fewerDo, fewerAre, insideNot, splitOf, BothOf; no condition but that the rows can be read and have 21 entries at least. -/
import Derived.Test.YtmeamfkjfpaciaaManStays
import Derived.Test.YtmeamfkjfpaciaaPAx13
namespace Go.Proofs.Ytmeamfkjfpaciaa.Man
open Go.RowKit Go.Proofs.Ytmeamfkjfpaciaa.PA Go.Proofs.YtmeamfkjfpaciaaW.PrintWords Go.Proofs.YtmeamfkjfpaciaaW.PrintLast Go.Proofs.YtmeamfkjfpaciaaW.PrintMore
set_option linter.unusedVariables false
set_option linter.unusedSimpArgs false

/-- The closures' answers. -/
def moP (l : List Int) (a s : Nat) : Bool := decide (s = a) || hB l a (s + 1)
def feP (l : List Int) (a s : Nat) : Bool := decide (s = 0) || hB l a (s - 1)
def faP (l : List Int) (a s : Nat) : Bool := (decide (s = 0) || hB l (a - 1) (s - 1)) && (decide (s = a) || hB l (a - 1) s)
def inP (l : List Int) (a s : Nat) : Bool := hB l a (a - s)
def boP (l m : List Int) (a s : Nat) : Bool := hB l a s && hB m a s
theorem holdsH (A : Option Addr) (c : Nat) (l : List Int) (W : World) (r : Kd.C (Kd.int .i64) W A l.length l) (x y : Int) (a s : Nat) (hx : x = (a : Int)) (hy : y = (s : Int)) (ha : a ≤ 5) (hs : s ≤ a) (hl : 21 ≤ l.length) :
    Calls Try.prog 34 #[.slice A l.length c, .int .i64 x, .int .i64 y] W fun e w' => e = .returned (.bool (hB l a s)) ∧ Below W.heap.size W w' := holdsC A c l W r x y a s hx hy ha hs hl
set_option maxHeartbeats 2000000 in
set_option maxRecDepth 100000 in
theorem mo1 (B : Nat) (A : Option Addr) (c : Nat) (l : List Int) (W : World) (hbk : W.heap[B]? = some (.cells #[.slice A l.length c] 23 (0, 0))) (r : Kd.C (Kd.int .i64) W A l.length l) (x y : Int) (a s : Nat) (hx : x = (a : Int)) (hy : y = (s : Int)) (ha : a ≤ 5) (hs : s ≤ a) (hl : 21 ≤ l.length) :
    Calls Try.prog 55 #[.int .i64 x, .int .i64 y, .pointer (some ⟨B, 0, none⟩)] W fun e w' => e = .returned (.bool (moP l a s)) ∧ Below W.heap.size W w' := by
  have hc0 : W.cell? ⟨B, 0, none⟩ = some (.slice A l.length c) := (blk_cell hbk 0).trans rfl
  have R := Aside0.mk r
  have BK := Aside0.mk hbk
  have HB0 := Aside0.mk (Below.refl W.heap.size W)
  by_cases e : s = a
  · have c1 : (y == x) = true := beq_iff_eq.mpr (by omega)
    have HQ := Aside0.mk (show moP l a s = true by unfold moP; rw [decide_eq_true e]; rfl)
    clear hbk r hx hy ha hs hl; clear e
    go_enter Try.func55, Try.ntmps55
    go_wp2
    go_ret
    exact ⟨by rw [HQ.out]; rfl, HB0.out⟩
  · have c1 : (y == x) = false := beq_eq_false_iff_ne.mpr (by omega)
    have HQ := Aside0.mk (show moP l a s = hB l a (s + 1) by unfold moP; rw [decide_eq_false e]; rfl)
    have HP := Aside0.mk (fun W r => holdsH A c l W r x (wrap64 (y + 1)) a (s + 1) hx (by unfold wrap64; omega) ha (by omega) hl)
    clear hbk r hx hy ha hs hl; clear e
    go_enter Try.func55, Try.ntmps55
    go_wp2_with (first | (go_at_call 34; refine (HP.out _ R.out).mono ?_; rintro e w2 ⟨rfl, hb_⟩; have HB2 := Aside0.mk hb_; have hc2 : w2.cell? ⟨B, 0, none⟩ = some (.slice A l.length c) := (blk_cell (blk_below BK.out HB2.out) 0).trans rfl; have R2 := Aside0.mk (Kd.C_below R.out HB2.out); clear hb_))
    go_ret
    exact ⟨by rw [HQ.out]; rfl, HB2.out⟩
set_option maxHeartbeats 2000000 in
set_option maxRecDepth 100000 in
theorem fe1 (B : Nat) (A : Option Addr) (c : Nat) (l : List Int) (W : World) (hbk : W.heap[B]? = some (.cells #[.slice A l.length c] 23 (0, 0))) (r : Kd.C (Kd.int .i64) W A l.length l) (x y : Int) (a s : Nat) (hx : x = (a : Int)) (hy : y = (s : Int)) (ha : a ≤ 5) (hs : s ≤ a) (hl : 21 ≤ l.length) :
    Calls Try.prog 56 #[.int .i64 x, .int .i64 y, .pointer (some ⟨B, 0, none⟩)] W fun e w' => e = .returned (.bool (feP l a s)) ∧ Below W.heap.size W w' := by
  have hc0 : W.cell? ⟨B, 0, none⟩ = some (.slice A l.length c) := (blk_cell hbk 0).trans rfl
  have R := Aside0.mk r
  have BK := Aside0.mk hbk
  have HB0 := Aside0.mk (Below.refl W.heap.size W)
  by_cases e : s = 0
  · have c1 : (y == 0) = true := beq_iff_eq.mpr (by omega)
    have HQ := Aside0.mk (show feP l a s = true by unfold feP; rw [decide_eq_true e]; rfl)
    clear hbk r hx hy ha hs hl; clear e
    go_enter Try.func56, Try.ntmps56
    go_wp2
    go_ret
    exact ⟨by rw [HQ.out]; rfl, HB0.out⟩
  · have c1 : (y == 0) = false := beq_eq_false_iff_ne.mpr (by omega)
    have HQ := Aside0.mk (show feP l a s = hB l a (s - 1) by unfold feP; rw [decide_eq_false e]; rfl)
    have HP := Aside0.mk (fun W r => holdsH A c l W r x (wrap64 (y - 1)) a (s - 1) hx (by unfold wrap64; omega) ha (by omega) hl)
    clear hbk r hx hy ha hs hl; clear e
    go_enter Try.func56, Try.ntmps56
    go_wp2_with (first | (go_at_call 34; refine (HP.out _ R.out).mono ?_; rintro e w2 ⟨rfl, hb_⟩; have HB2 := Aside0.mk hb_; have hc2 : w2.cell? ⟨B, 0, none⟩ = some (.slice A l.length c) := (blk_cell (blk_below BK.out HB2.out) 0).trans rfl; have R2 := Aside0.mk (Kd.C_below R.out HB2.out); clear hb_))
    go_ret
    exact ⟨by rw [HQ.out]; rfl, HB2.out⟩
set_option maxHeartbeats 2000000 in
set_option maxRecDepth 100000 in
set_option maxHeartbeats 2000000 in
set_option maxRecDepth 100000 in
set_option maxHeartbeats 2000000 in
set_option maxRecDepth 100000 in
theorem bo1 (B D : Nat) (A A' : Option Addr) (c c' : Nat) (l m : List Int) (W : World) (hbk : W.heap[B]? = some (.cells #[.slice A l.length c] 23 (0, 0))) (hdk : W.heap[D]? = some (.cells #[.slice A' m.length c'] 23 (0, 0))) (r : Kd.C (Kd.int .i64) W A l.length l) (r' : Kd.C (Kd.int .i64) W A' m.length m) (x y : Int) (a s : Nat) (hx : x = (a : Int)) (hy : y = (s : Int)) (ha : a ≤ 5) (hs : s ≤ a) (hl : 21 ≤ l.length) (hm : 21 ≤ m.length) :
    Calls Try.prog 33 #[.int .i64 x, .int .i64 y, .pointer (some ⟨B, 0, none⟩), .pointer (some ⟨D, 0, none⟩)] W fun e w' => e = .returned (.bool (boP l m a s)) ∧ Below W.heap.size W w' := by
  have hc0 : W.cell? ⟨B, 0, none⟩ = some (.slice A l.length c) := (blk_cell hbk 0).trans rfl
  have R := Aside0.mk r
  have BK := Aside0.mk hbk
  have HB0 := Aside0.mk (Below.refl W.heap.size W)
  have R' := Aside0.mk r'
  have DK := Aside0.mk hdk
  have HP1 := Aside0.mk (fun W r => holdsH A c l W r x y a s hx hy ha hs hl)
  have HP2 := Aside0.mk (fun W r => holdsH A' c' m W r x y a s hx hy ha hs hm)
  have HD := Aside0.mk (show boP l m a s = (hB l a s && hB m a s) from rfl)
  generalize hB l a s = b at HP1 HD
  clear hbk hdk r r' hx hy ha hs hl hm
  cases b
  · have HQ := Aside0.mk (show boP l m a s = false by rw [HD.out]; rfl)
    go_enter Try.func33, Try.ntmps33
    go_wp2_with (first | (go_at_call 34; refine (HP1.out _ R.out).mono ?_; rintro e w2 ⟨rfl, hb_⟩; have HB2 := Aside0.mk hb_; have hc2 : w2.cell? ⟨B, 0, none⟩ = some (.slice A l.length c) := (blk_cell (blk_below BK.out HB2.out) 0).trans rfl; have R2 := Aside0.mk (Kd.C_below R.out HB2.out); clear hb_))
    go_ret
    exact ⟨by rw [HQ.out]; rfl, HB2.out⟩
  · have HQ := Aside0.mk (show boP l m a s = hB m a s by rw [HD.out]; rfl)
    go_enter Try.func33, Try.ntmps33
    go_wp2_with (first | (go_at_call 34; refine (HP2.out _ (Kd.C_below R'.out HB2.out)).mono ?_; rintro e w3 ⟨rfl, hb_⟩; have HB3 := Aside0.mk (below_step HB2.out hb_); clear hb_) | (go_at_call 34; refine (HP1.out _ R.out).mono ?_; rintro e w2 ⟨rfl, hb_⟩; have HB2 := Aside0.mk hb_; have hd2 : w2.cell? ⟨D, 0, none⟩ = some (.slice A' m.length c') := (blk_cell (blk_below DK.out HB2.out) 0).trans rfl; clear hb_))
    go_ret
    exact ⟨by rw [HQ.out]; rfl, HB3.out⟩
set_option maxHeartbeats 2000000 in
set_option maxRecDepth 100000 in
theorem moreDo (A : Option Addr) (c : Nat) (l : List Int) (w : World) (hr : Kd.C (Kd.int .i64) w A l.length l) (hl : 21 ≤ l.length) :
    Calls Try.prog 30 #[.slice A l.length c] w fun e w' => e = .returned (.bool (stayB l (moP l))) ∧ Below w.heap.size w w' := by
  have eg := enters_of Try.func55 (by kernel_rfl) rfl
  have HB1 := Aside0.mk (below_alloc (Below.refl w.heap.size w) (.cells #[.slice A l.length c] 23))
  have HBK := Aside0.mk (blk_new w (.cells #[.slice A l.length c] 23))
  have hc1 : (w.alloc (.cells #[.slice A l.length c] 23)).cell? ⟨w.heap.size, 0, none⟩ = some (.slice A l.length c) := (blk_cell HBK.out 0).trans rfl
  have HR := Aside0.mk hr
  clear hr
  have HT := Aside0.mk (fun W (bk : W.heap[w.heap.size]? = some (.cells #[.slice A l.length c] 23 (0, 0))) (hb : Below w.heap.size w W) => stays l (moP l) 55 #[.pointer (some ⟨w.heap.size, 0, none⟩)] eg W A c (Kd.C_below HR.out hb) hl (fun V x y a s hx hy ha hs _ hv =>
    mo1 w.heap.size A c l V (blk_below bk hv) (Kd.C_below HR.out (below_step hb hv)) x y a s hx hy ha hs hl))
  clear eg
  go_enter Try.func30, Try.ntmps30
  go_wp2_with (first | (go_at_call 54; refine (HT.out _ HBK.out HB1.out).mono ?_; rintro e w2 ⟨rfl, hb_⟩; have HB2 := Aside0.mk (below_step HB1.out hb_); clear hb_))
  go_ret
  exact ⟨rfl, HB2.out⟩
set_option maxHeartbeats 2000000 in
set_option maxRecDepth 100000 in
theorem fewerDo (A : Option Addr) (c : Nat) (l : List Int) (w : World) (hr : Kd.C (Kd.int .i64) w A l.length l) (hl : 21 ≤ l.length) :
    Calls Try.prog 31 #[.slice A l.length c] w fun e w' => e = .returned (.bool (stayB l (feP l))) ∧ Below w.heap.size w w' := by
  have eg := enters_of Try.func56 (by kernel_rfl) rfl
  have HB1 := Aside0.mk (below_alloc (Below.refl w.heap.size w) (.cells #[.slice A l.length c] 23))
  have HBK := Aside0.mk (blk_new w (.cells #[.slice A l.length c] 23))
  have hc1 : (w.alloc (.cells #[.slice A l.length c] 23)).cell? ⟨w.heap.size, 0, none⟩ = some (.slice A l.length c) := (blk_cell HBK.out 0).trans rfl
  have HR := Aside0.mk hr
  clear hr
  have HT := Aside0.mk (fun W (bk : W.heap[w.heap.size]? = some (.cells #[.slice A l.length c] 23 (0, 0))) (hb : Below w.heap.size w W) => stays l (feP l) 56 #[.pointer (some ⟨w.heap.size, 0, none⟩)] eg W A c (Kd.C_below HR.out hb) hl (fun V x y a s hx hy ha hs _ hv =>
    fe1 w.heap.size A c l V (blk_below bk hv) (Kd.C_below HR.out (below_step hb hv)) x y a s hx hy ha hs hl))
  clear eg
  go_enter Try.func31, Try.ntmps31
  go_wp2_with (first | (go_at_call 54; refine (HT.out _ HBK.out HB1.out).mono ?_; rintro e w2 ⟨rfl, hb_⟩; have HB2 := Aside0.mk (below_step HB1.out hb_); clear hb_))
  go_ret
  exact ⟨rfl, HB2.out⟩
end Go.Proofs.Ytmeamfkjfpaciaa.Man
