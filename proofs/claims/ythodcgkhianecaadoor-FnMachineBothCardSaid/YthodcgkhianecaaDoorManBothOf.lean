/- impl.BothOf: its closure and the call; no condition but that the rows can be read. -/
import Derived.Test.YthodcgkhianecaaDoorManHolds
import Derived.Test.YthodcgkhianecaaDoorPAx28
namespace Go.Proofs.YthodcgkhianecaaDoor.Man
open Go.RowKit Go.Proofs.YthodcgkhianecaaDoor.PA Go.Proofs.YthodcgkhianecaaDoorW.PrintWords Go.Proofs.YthodcgkhianecaaDoorW.PrintLast Go.Proofs.YthodcgkhianecaaDoorW.PrintMore
set_option linter.unusedVariables false
set_option linter.unusedSimpArgs false

/-- Does a triangle hold at a place? -/
def hB (l : List Int) (a s : Nat) : Bool := rd l (pl a s) == 1
def boP (l m : List Int) (a s : Nat) : Bool := hB l a s && hB m a s
theorem holdsH (A : Option Addr) (c : Nat) (l : List Int) (W : World) (r : Kd.C (Kd.int .i64) W A l.length l) (x y : Int) (a s : Nat) (hx : x = (a : Int)) (hy : y = (s : Int)) (ha : a ≤ 5) (hs : s ≤ a) (hl : 21 ≤ l.length) :
    Calls Tryd.prog 35 #[.slice A l.length c, .int .i64 x, .int .i64 y] W fun e w' => e = .returned (.bool (hB l a s)) ∧ Below W.heap.size W w' := holdsC A c l W r x y a s hx hy ha hs hl
set_option maxHeartbeats 2000000 in
set_option maxRecDepth 100000 in
theorem bo1 (B D : Nat) (A A' : Option Addr) (c c' : Nat) (l m : List Int) (W : World) (hbk : W.heap[B]? = some (.cells #[.slice A l.length c] 23 (0, 0))) (hdk : W.heap[D]? = some (.cells #[.slice A' m.length c'] 23 (0, 0))) (r : Kd.C (Kd.int .i64) W A l.length l) (r' : Kd.C (Kd.int .i64) W A' m.length m) (x y : Int) (a s : Nat) (hx : x = (a : Int)) (hy : y = (s : Int)) (ha : a ≤ 5) (hs : s ≤ a) (hl : 21 ≤ l.length) (hm : 21 ≤ m.length) :
    Calls Tryd.prog 34 #[.int .i64 x, .int .i64 y, .pointer (some ⟨B, 0, none⟩), .pointer (some ⟨D, 0, none⟩)] W fun e w' => e = .returned (.bool (boP l m a s)) ∧ Below W.heap.size W w' := by
  have hc0 : W.cell? ⟨B, 0, none⟩ = some (.slice A l.length c) := (blk_cell hbk 0).trans rfl
  have R := Aside0.mk r
  have BK := Aside0.mk hbk
  have HB0 := Aside0.mk (Below.refl W.heap.size W)
  have R' := Aside0.mk r'
  have DK := Aside0.mk hdk
  have HP1 := Aside0.mk (fun W r => holdsH A c l W r x y a s hx hy ha hs hl)
  have HP2 := Aside0.mk (fun W r => holdsH A' c' m W r x y a s hx hy ha hs hm)
  have HD := Aside0.mk (show boP l m a s = (hB l a s && hB m a s) from rfl)
  generalize hB l a s = b at HP1 HD
  clear hbk hdk r r' hx hy ha hs hl hm
  cases b
  · have HQ := Aside0.mk (show boP l m a s = false by rw [HD.out]; rfl)
    go_enter Tryd.func34, Tryd.ntmps34
    go_wp2_with (first | (go_at_call 35; refine (HP1.out _ R.out).mono ?_; rintro e w2 ⟨rfl, hb_⟩; have HB2 := Aside0.mk hb_; have hc2 : w2.cell? ⟨B, 0, none⟩ = some (.slice A l.length c) := (blk_cell (blk_below BK.out HB2.out) 0).trans rfl; have R2 := Aside0.mk (Kd.C_below R.out HB2.out); clear hb_))
    go_ret
    exact ⟨by rw [HQ.out]; rfl, HB2.out⟩
  · have HQ := Aside0.mk (show boP l m a s = hB m a s by rw [HD.out]; rfl)
    go_enter Tryd.func34, Tryd.ntmps34
    go_wp2_with (first | (go_at_call 35; refine (HP2.out _ (Kd.C_below R'.out HB2.out)).mono ?_; rintro e w3 ⟨rfl, hb_⟩; have HB3 := Aside0.mk (below_step HB2.out hb_); clear hb_) | (go_at_call 35; refine (HP1.out _ R.out).mono ?_; rintro e w2 ⟨rfl, hb_⟩; have HB2 := Aside0.mk hb_; have hd2 : w2.cell? ⟨D, 0, none⟩ = some (.slice A' m.length c') := (blk_cell (blk_below DK.out HB2.out) 0).trans rfl; clear hb_))
    go_ret
    exact ⟨by rw [HQ.out]; rfl, HB3.out⟩
/-- What BothOf answers. -/
def bothF (k : Nat) (l m : List Int) : Option (List Int) := (impl_isTriangle.f k l).bind fun b => if b = true then ((impl_isTriangle.f k m).bind fun d => if d = true then (if 21 ≤ l.length ∧ 21 ≤ m.length then some (triRow (boP l m)) else none) else some []) else some []
theorem bothF_mono : ∀ a0 a1 k, LeO (bothF k a0 a1) (bothF (k + 1) a0 a1) := by
  intro a b k
  unfold bothF
  refine LeO.bind (impl_isTriangle.mono _ _) (fun _ => LeO.ite (LeO.bind (impl_isTriangle.mono _ _) (fun _ => LeO.refl _)) (LeO.refl _))
set_option maxHeartbeats 4000000 in
set_option maxRecDepth 100000 in
theorem both (k : Nat) (A0 : Option Addr) (c0 : Nat) (l0 : List Int) (A1 : Option Addr) (c1 : Nat) (l1 : List Int) (r : List Int) (w : World) (hr0 : Kd.C (Kd.int .i64) w A0 l0.length l0) (hc0 : l0.length ≤ c0) (hr1 : Kd.C (Kd.int .i64) w A1 l1.length l1) (hc1 : l1.length ≤ c1) (h : bothF k l0 l1 = some r) :
    Calls Tryd.prog 18 #[.slice A0 l0.length c0, .slice A1 l1.length c1] w fun e w' => ∃ v0_ : Value, e = .returned (v0_) ∧ Kd.R (Kd.int .i64) 3 w' w.heap.size (fun _ => True) v0_ r ∧ Below w.heap.size w w' := by
  have eg := enters_of Tryd.func34 (by kernel_rfl) rfl
  unfold bothF at h
  obtain ⟨m, hm, h⟩ := Option.bind_eq_some_iff.mp h
  have hsz : (w.alloc (.cells #[.slice A0 l0.length c0] 23)).heap.size = w.heap.size + 1 := Array.size_push _
  have HB2 := Aside0.mk (show Below w.heap.size w ((w.alloc (.cells #[.slice A0 l0.length c0] 23)).alloc (.cells #[.slice A1 l1.length c1] 23)) from below_alloc (below_alloc (Below.refl w.heap.size w) _) _)
  have HBK := Aside0.mk (show (((w.alloc (.cells #[.slice A0 l0.length c0] 23)).alloc (.cells #[.slice A1 l1.length c1] 23))).heap[w.heap.size]? = some (.cells #[.slice A0 l0.length c0] 23 (0, 0)) from blk_alloc (blk_new w _) _)
  have HDK := Aside0.mk (show (((w.alloc (.cells #[.slice A0 l0.length c0] 23)).alloc (.cells #[.slice A1 l1.length c1] 23))).heap[w.heap.size + 1]? = some (.cells #[.slice A1 l1.length c1] 23 (0, 0)) by rw [← hsz]; exact blk_new _ _)
  have hp0 : (((w.alloc (.cells #[.slice A0 l0.length c0] 23)).alloc (.cells #[.slice A1 l1.length c1] 23))).cell? ⟨w.heap.size, 0, none⟩ = some (.slice A0 l0.length c0) := (blk_cell HBK.out 0).trans rfl
  have HR := Aside0.mk (show Kd.C (Kd.int .i64) w A0 l0.length l0 ∧ Kd.C (Kd.int .i64) w A1 l1.length l1 from ⟨hr0, hr1⟩)
  have HC := Aside0.mk (show l0.length ≤ c0 ∧ l1.length ≤ c1 from ⟨hc0, hc1⟩)
  have HM := Aside0.mk (fun W (hb : Below w.heap.size w W) => (impl_isTriangle.calls k A0 c0 l0 m W (Kd.C_below HR.out.1 hb) HC.out.1 hm).mono (fun e w' h => show e = .returned (.bool m) ∧ Below W.heap.size W w' from ⟨h.1, below_drawnN h.2⟩))
  clear hr0 hr1 hc0 hc1 hm hsz
  cases m with
  | false =>
    obtain rfl : ([] : List Int) = r := Option.some.inj h
    clear h
    go_enter Tryd.func18, Tryd.ntmps18
    go_wp2_with (first | (go_at_call 33; refine (HM.out _ HB2.out).mono ?_; rintro e w3 ⟨rfl, hb_⟩; have HB3 := Aside0.mk (below_step HB2.out hb_); have hp2 : w3.cell? ⟨w.heap.size + 1, 0, none⟩ = some (.slice A1 l1.length c1) := (blk_cell (blk_below HDK.out hb_) 0).trans rfl; have BK3 := Aside0.mk (blk_below HBK.out hb_); have DK3 := Aside0.mk (blk_below HDK.out hb_); clear hb_))
    go_ret
    exact ⟨_, rfl, Kd.R_nil _ _ _ _ _, HB3.out⟩
  | true =>
    obtain ⟨o, ho, h⟩ := Option.bind_eq_some_iff.mp h
    have HO := Aside0.mk (fun W (hb : Below w.heap.size w W) => (impl_isTriangle.calls k A1 c1 l1 o W (Kd.C_below HR.out.2 hb) HC.out.2 ho).mono (fun e w' h => show e = .returned (.bool o) ∧ Below W.heap.size W w' from ⟨h.1, below_drawnN h.2⟩))
    clear ho
    cases o with
    | false =>
      obtain rfl : ([] : List Int) = r := Option.some.inj h
      clear h
      go_enter Tryd.func18, Tryd.ntmps18
      go_wp2_with (first | (go_at_call 33; refine (HO.out _ HB3.out).mono ?_; rintro e w4 ⟨rfl, hb_⟩; have HB4 := Aside0.mk (below_step HB3.out hb_); have BK4 := Aside0.mk (blk_below BK3.out hb_); have DK4 := Aside0.mk (blk_below DK3.out hb_); clear hb_) | (go_at_call 33; refine (HM.out _ HB2.out).mono ?_; rintro e w3 ⟨rfl, hb_⟩; have HB3 := Aside0.mk (below_step HB2.out hb_); have hp2 : w3.cell? ⟨w.heap.size + 1, 0, none⟩ = some (.slice A1 l1.length c1) := (blk_cell (blk_below HDK.out hb_) 0).trans rfl; have BK3 := Aside0.mk (blk_below HBK.out hb_); have DK3 := Aside0.mk (blk_below HDK.out hb_); clear hb_))
      go_ret
      exact ⟨_, rfl, Kd.R_nil _ _ _ _ _, HB4.out⟩
    | true =>
      by_cases hk : 21 ≤ l0.length ∧ 21 ≤ l1.length
      · obtain rfl : triRow (boP l0 l1) = r := by
          have h2 := h
          simp only [if_true] at h2
          rw [if_pos hk] at h2
          exact Option.some.inj h2
        clear h
        have HT := Aside0.mk (fun W (bk : W.heap[w.heap.size]? = some (.cells #[.slice A0 l0.length c0] 23 (0, 0))) (dk : W.heap[w.heap.size + 1]? = some (.cells #[.slice A1 l1.length c1] 23 (0, 0))) (hb : Below w.heap.size w W) => triangleBy (boP l0 l1) 34 #[.pointer (some ⟨w.heap.size, 0, none⟩), .pointer (some ⟨w.heap.size + 1, 0, none⟩)] eg W (fun V x y a s hx hy ha hs hv =>
          bo1 w.heap.size (w.heap.size + 1) A0 A1 c0 c1 l0 l1 V (blk_below bk hv) (blk_below dk hv) (Kd.C_below HR.out.1 (below_step hb hv)) (Kd.C_below HR.out.2 (below_step hb hv)) x y a s hx hy ha hs hk.1 hk.2))
        clear eg hk
        go_enter Tryd.func18, Tryd.ntmps18
        go_wp2_with (first | (go_at_call 29; refine (HT.out _ BK4.out DK4.out HB4.out).mono ?_; rintro e w5 ⟨v, rfl, hv_, hb_⟩; have HV := Aside0.mk (Kd.R_lower hv_ (below_size HB4.out)); have HB5 := Aside0.mk (below_step HB4.out hb_); clear hv_ hb_) | (go_at_call 33; refine (HO.out _ HB3.out).mono ?_; rintro e w4 ⟨rfl, hb_⟩; have HB4 := Aside0.mk (below_step HB3.out hb_); have BK4 := Aside0.mk (blk_below BK3.out hb_); have DK4 := Aside0.mk (blk_below DK3.out hb_); clear hb_) | (go_at_call 33; refine (HM.out _ HB2.out).mono ?_; rintro e w3 ⟨rfl, hb_⟩; have HB3 := Aside0.mk (below_step HB2.out hb_); have hp2 : w3.cell? ⟨w.heap.size + 1, 0, none⟩ = some (.slice A1 l1.length c1) := (blk_cell (blk_below HDK.out hb_) 0).trans rfl; have BK3 := Aside0.mk (blk_below HBK.out hb_); have DK3 := Aside0.mk (blk_below HDK.out hb_); clear hb_))
        go_ret
        exact ⟨_, rfl, HV.out, HB5.out⟩
      · simp only [if_true] at h
        rw [if_neg hk] at h
        exact absurd h (by simp)
end Go.Proofs.YthodcgkhianecaaDoor.Man
