/- impl.splitOf and impl.BothOf: closures and calls; no condition but that the rows can be read and have 21 entries at least. -/
import Derived.Test.YtmeamfkjfpaciaaManMore
import Derived.Test.YtmeamfkjfpaciaaPAx13
namespace Go.Proofs.Ytmeamfkjfpaciaa.Man
open Go.RowKit Go.Proofs.Ytmeamfkjfpaciaa.PA Go.Proofs.YtmeamfkjfpaciaaW.PrintWords Go.Proofs.YtmeamfkjfpaciaaW.PrintLast Go.Proofs.YtmeamfkjfpaciaaW.PrintMore
set_option linter.unusedVariables false
set_option linter.unusedSimpArgs false

/-- Does a triangle hold at one of some places of a row, from a place on? -/
def anyFr (l : List Int) (a s : Nat) : Nat → Bool
  | 0 => false
  | k + 1 => anyFr l a s k || hB l a (s + k)
def upP (l : List Int) (a s : Nat) : Bool := anyFr l a 0 (s + 1)
def dnP (l : List Int) (a s : Nat) : Bool := anyFr l a s (a + 1 - s)
theorem anyFr_mono {l : List Int} {a s : Nat} : ∀ {j k : Nat}, j ≤ k → anyFr l a s j = true → anyFr l a s k = true
  | j, 0, h, hb => by
    obtain rfl : j = 0 := by omega
    exact hb
  | j, k + 1, h, hb => by
    by_cases e : j = k + 1
    · rw [← e]; exact hb
    · rw [anyFr, anyFr_mono (show j ≤ k by omega) hb]; rfl
theorem anyFr_has {l : List Int} {a s j n : Nat} (hj : j < n) (h : hB l a (s + j) = true) : anyFr l a s n = true := by
  have h1 : anyFr l a s (j + 1) = true := by rw [anyFr, h]; simp
  exact anyFr_mono (show j + 1 ≤ n by omega) h1
set_option maxHeartbeats 4000000 in
set_option maxRecDepth 100000 in
theorem sp1 (B : Nat) (A : Option Addr) (c : Nat) (l : List Int) (W : World) (hbk : W.heap[B]? = some (.cells #[.slice A l.length c] 23 (0, 0))) (r : Kd.C (Kd.int .i64) W A l.length l) (x y : Int) (a s : Nat) (hx : x = (a : Int)) (hy : y = (s : Int)) (ha : a ≤ 5) (hs : s ≤ a) (hl : 21 ≤ l.length) :
    Calls Try.prog 51 #[.int .i64 x, .int .i64 y, .pointer (some ⟨B, 0, none⟩)] W fun e w' => e = .returned (.bool (upP l a s)) ∧ Below W.heap.size W w' := by
  have R := Aside0.mk r
  have BK := Aside0.mk hbk
  have HB := Aside0.mk (Below.refl W.heap.size W)
  have HX := Aside0.mk hx
  have HN := Aside0.mk (show wrap64 (y + 1) = ((s + 1 : Nat) : Int) by unfold wrap64; omega)
  have HA := Aside0.mk (show a ≤ 5 ∧ s ≤ a ∧ 21 ≤ l.length from ⟨ha, hs, hl⟩)
  clear hbk r hx hy ha hs hl
  go_enter Try.func51, Try.ntmps51
  go_wp2
  go_loopg [9] (s + 1) (fun kq v9 w' => ∃ (j : Nat) (z : Int), v9 = .int .i64 z ∧ Aside0 (z = (j : Int)) ∧ Aside0 (j + kq = s + 1) ∧ Aside0 (anyFr l a 0 j = false) ∧ Aside0 (Below W.heap.size W w'))
  case atStart => exact ⟨0, 0, rfl, ⟨rfl⟩, ⟨Nat.zero_add _⟩, ⟨rfl⟩, HB⟩
  case round =>
    clear HB
    obtain ⟨j, z, rfl, HZ, HJ, HF, HB⟩ := hrel
    cases gk with
    | zero =>
      have c1 : decide (z < wrap64 (y + 1)) = false := decide_eq_false (by rw [HN.out, HZ.out]; have := HJ.out; omega)
      have ej : j = s + 1 := by have := HJ.out; omega
      go_wp2
      go_ret
      exact ⟨by unfold upP; rw [← ej, HF.out]; rfl, HB.out⟩
    | succ k1 =>
      have c1 : decide (z < wrap64 (y + 1)) = true := decide_eq_true (by rw [HN.out, HZ.out]; have := HJ.out; omega)
      have HJ1 := Aside0.mk (show j ≤ a by have := HJ.out; have := HA.out; omega)
      have HZ1 := Aside0.mk (show wrap64 (z + 1) = ((j + 1 : Nat) : Int) by have := HZ.out; have := HJ1.out; have := HA.out; unfold wrap64; omega)
      have hc0 : wr.cell? ⟨B, 0, none⟩ = some (.slice A l.length c) := (blk_cell (blk_below BK.out HB.out) 0).trans rfl
      have HH := Aside0.mk (holdsH A c l wr (Kd.C_below R.out HB.out) x z a j HX.out HZ.out HA.out.1 HJ1.out HA.out.2.2)
      obtain ⟨h, hh⟩ : ∃ h, h = hB l a j := ⟨_, rfl⟩
      rw [← hh] at HH
      have HE := Aside0.mk hh
      clear hh
      cases h with
      | false =>
        have HG := Aside0.mk (show anyFr l a 0 (j + 1) = false by rw [anyFr, HF.out, Nat.zero_add, ← HE.out]; rfl)
        go_wp2_with (first | (go_at_call 34; refine HH.out.mono ?_; rintro e w2 ⟨rfl, hb_⟩; have HB2 := Aside0.mk (below_step HB.out hb_); clear hb_))
        go_roundg k1
        case measure => have := HJ.out; omega
        case rel => exact ⟨j + 1, wrap64 (z + 1), rfl, HZ1, ⟨by have := HJ.out; omega⟩, HG, HB2⟩
      | true =>
        have HG := Aside0.mk (show upP l a s = true by unfold upP; exact anyFr_has (show j < s + 1 by have := HJ.out; omega) (by rw [Nat.zero_add]; exact HE.out.symm))
        go_wp2_with (first | (go_at_call 34; refine HH.out.mono ?_; rintro e w2 ⟨rfl, hb_⟩; have HB2 := Aside0.mk (below_step HB.out hb_); clear hb_))
        go_ret
        exact ⟨by rw [HG.out]; rfl, HB2.out⟩
set_option maxHeartbeats 4000000 in
set_option maxRecDepth 100000 in
theorem sp2 (B : Nat) (A : Option Addr) (c : Nat) (l : List Int) (W : World) (hbk : W.heap[B]? = some (.cells #[.slice A l.length c] 23 (0, 0))) (r : Kd.C (Kd.int .i64) W A l.length l) (x y : Int) (a s : Nat) (hx : x = (a : Int)) (hy : y = (s : Int)) (ha : a ≤ 5) (hs : s ≤ a) (hl : 21 ≤ l.length) :
    Calls Try.prog 52 #[.int .i64 x, .int .i64 y, .pointer (some ⟨B, 0, none⟩)] W fun e w' => e = .returned (.bool (dnP l a s)) ∧ Below W.heap.size W w' := by
  have R := Aside0.mk r
  have BK := Aside0.mk hbk
  have HB := Aside0.mk (Below.refl W.heap.size W)
  have HX := Aside0.mk hx
  have HA := Aside0.mk (show a ≤ 5 ∧ s ≤ a ∧ 21 ≤ l.length from ⟨ha, hs, hl⟩)
  have HY := Aside0.mk hy
  clear hbk r hx hy ha hs hl
  go_enter Try.func52, Try.ntmps52
  go_wp2
  go_loopg [6] (a + 1 - s) (fun kq v6 w' => ∃ (j : Nat) (z : Int), v6 = .int .i64 z ∧ Aside0 (z = ((s + j : Nat) : Int)) ∧ Aside0 (j + kq = a + 1 - s) ∧ Aside0 (anyFr l a s j = false) ∧ Aside0 (Below W.heap.size W w'))
  case atStart => exact ⟨0, y, rfl, ⟨by rw [HY.out]; rfl⟩, ⟨Nat.zero_add _⟩, ⟨rfl⟩, HB⟩
  case round =>
    clear HB
    obtain ⟨j, z, rfl, HZ, HJ, HF, HB⟩ := hrel
    cases gk with
    | zero =>
      have c1 : decide (z ≤ x) = false := decide_eq_false (by rw [HX.out, HZ.out]; have := HJ.out; have := HA.out; omega)
      have ej : j = a + 1 - s := by have := HJ.out; omega
      go_wp2
      go_ret
      exact ⟨by unfold dnP; rw [← ej, HF.out]; rfl, HB.out⟩
    | succ k1 =>
      have c1 : decide (z ≤ x) = true := decide_eq_true (by rw [HX.out, HZ.out]; have := HJ.out; have := HA.out; omega)
      have HJ1 := Aside0.mk (show s + j ≤ a by have := HJ.out; have := HA.out; omega)
      have HZ1 := Aside0.mk (show wrap64 (z + 1) = ((s + (j + 1) : Nat) : Int) by have := HZ.out; have := HJ1.out; have := HA.out; unfold wrap64; omega)
      have hc0 : wr.cell? ⟨B, 0, none⟩ = some (.slice A l.length c) := (blk_cell (blk_below BK.out HB.out) 0).trans rfl
      have HH := Aside0.mk (holdsH A c l wr (Kd.C_below R.out HB.out) x z a (s + j) HX.out HZ.out HA.out.1 HJ1.out HA.out.2.2)
      obtain ⟨h, hh⟩ : ∃ h, h = hB l a (s + j) := ⟨_, rfl⟩
      rw [← hh] at HH
      have HE := Aside0.mk hh
      clear hh
      cases h with
      | false =>
        have HG := Aside0.mk (show anyFr l a s (j + 1) = false by rw [anyFr, HF.out, ← HE.out]; rfl)
        go_wp2_with (first | (go_at_call 34; refine HH.out.mono ?_; rintro e w2 ⟨rfl, hb_⟩; have HB2 := Aside0.mk (below_step HB.out hb_); clear hb_))
        go_roundg k1
        case measure => have := HJ.out; omega
        case rel => exact ⟨j + 1, wrap64 (z + 1), rfl, HZ1, ⟨by have := HJ.out; omega⟩, HG, HB2⟩
      | true =>
        have HG := Aside0.mk (show dnP l a s = true by unfold dnP; exact anyFr_has (show j < a + 1 - s by have := HJ.out; omega) HE.out.symm)
        go_wp2_with (first | (go_at_call 34; refine HH.out.mono ?_; rintro e w2 ⟨rfl, hb_⟩; have HB2 := Aside0.mk (below_step HB.out hb_); clear hb_))
        go_ret
        exact ⟨by rw [HG.out]; rfl, HB2.out⟩
set_option maxHeartbeats 4000000 in
set_option maxRecDepth 100000 in
theorem splitOf (A : Option Addr) (c : Nat) (l : List Int) (w : World) (hr : Kd.C (Kd.int .i64) w A l.length l) (hl : 21 ≤ l.length) :
    Calls Try.prog 26 #[.slice A l.length c] w fun e w' => ∃ v0_ v1_ : Value, e = .returned (.tuple #[v0_, v1_]) ∧ Kd.R (Kd.int .i64) 3 w' w.heap.size (fun k_ => some k_ ≠ (v1_ : Value).ownBlock) v0_ (triRow (upP l)) ∧ Kd.R (Kd.int .i64) 3 w' w.heap.size (fun k_ => some k_ ≠ (v0_ : Value).ownBlock) v1_ (triRow (dnP l)) ∧ Below w.heap.size w w' := by
  have eg := enters_of Try.func51 (by kernel_rfl) rfl
  have eh := enters_of Try.func52 (by kernel_rfl) rfl
  have HB1 := Aside0.mk (below_alloc (Below.refl w.heap.size w) (.cells #[.slice A l.length c] 23))
  have HBK := Aside0.mk (blk_new w (.cells #[.slice A l.length c] 23))
  have HR := Aside0.mk hr
  clear hr
  have HT := Aside0.mk (fun W (bk : W.heap[w.heap.size]? = some (.cells #[.slice A l.length c] 23 (0, 0))) (hb : Below w.heap.size w W) => triangleBy (upP l) 51 #[.pointer (some ⟨w.heap.size, 0, none⟩)] eg W (fun V x y a s hx hy ha hs hv =>
    sp1 w.heap.size A c l V (blk_below bk hv) (Kd.C_below HR.out (below_step hb hv)) x y a s hx hy ha hs hl))
  have HU := Aside0.mk (fun W (bk : W.heap[w.heap.size]? = some (.cells #[.slice A l.length c] 23 (0, 0))) (hb : Below w.heap.size w W) => triangleBy (dnP l) 52 #[.pointer (some ⟨w.heap.size, 0, none⟩)] eh W (fun V x y a s hx hy ha hs hv =>
    sp2 w.heap.size A c l V (blk_below bk hv) (Kd.C_below HR.out (below_step hb hv)) x y a s hx hy ha hs hl))
  clear eg eh
  go_enter Try.func26, Try.ntmps26
  go_wp2_with (first | (go_at_call 32; refine (HU.out _ (blk_below HBK.out HD2.out) HB2.out).mono ?_; rintro e w3 ⟨v2, rfl, hv_, hb_⟩; have HV2 := Aside0.mk (Kd.R_lower (Kd.R_mono (Kd.R_bound hv_) (fun k_ hk_ => Kd.fresh' (Kd.R_lt HV.out) k_ hk_.2.1)) (below_size HB2.out)); have HV1 := Aside0.mk (Kd.R_mono (Kd.R_elder' HV.out (Kd.R_base hv_) hb_) (fun k_ hk_ => hk_.2)); have HB3 := Aside0.mk (below_step HB2.out hb_); clear hv_ hb_) | (go_at_call 32; refine (HT.out _ HBK.out HB1.out).mono ?_; rintro e w2 ⟨v, rfl, hv_, hb_⟩; have HV := Aside0.mk (Kd.R_lower hv_ (below_size HB1.out)); have HB2 := Aside0.mk (below_step HB1.out hb_); have HD2 := Aside0.mk hb_; clear hv_ hb_))
  go_ret2
  exact ⟨_, _, rfl, HV1.out, HV2.out, HB3.out⟩
end Go.Proofs.Ytmeamfkjfpaciaa.Man
