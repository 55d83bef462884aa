/- slices.Equal at rows of four, and the closures of impl.cornersOf; no condition but the rows' lengths. -/
import Derived.Test.YtmbninbecclbiaaManRowF
import Derived.Test.YtmbninbecclbiaaPAx26
namespace Go.Proofs.Ytmbninbecclbiaa.ManR
open Go.RowKit Go.Proofs.Ytmbninbecclbiaa.PA Go.Proofs.YtmbninbecclbiaaW.PrintWords Go.Proofs.YtmbninbecclbiaaW.PrintLast Go.Proofs.YtmbninbecclbiaaW.PrintMore
set_option linter.unusedVariables false
set_option linter.unusedSimpArgs false

theorem take_next (xs ys : List Int) (j : Nat) (h1 : j < xs.length) (h2 : j < ys.length) (ht : xs.take j = ys.take j) (he : rd xs (j : Int) = rd ys (j : Int)) : xs.take (j + 1) = ys.take (j + 1) := by
  rw [List.take_add_one, List.take_add_one, ht]
  unfold rd at he
  rw [List.getD_eq_getElem?_getD, List.getD_eq_getElem?_getD, Int.toNat_natCast] at he
  rw [List.getElem?_eq_getElem h1, List.getElem?_eq_getElem h2] at he ⊢
  simp only [Option.getD_some] at he
  rw [he]
set_option maxHeartbeats 4000000 in
set_option maxRecDepth 100000 in
theorem EqualC (A B : Option Addr) (c d : Nat) (xs ys : List Int) (w : World) (hx : Kd.C (Kd.int .i64) w A xs.length xs) (hy : Kd.C (Kd.int .i64) w B ys.length ys) (lx : xs.length = 4) (ly : ys.length = 4) :
    Calls Try.prog 72 #[.slice A xs.length c, .slice B ys.length d] w fun e w' => e = .returned (.bool (decide (xs = ys))) ∧ Below w.heap.size w w' := by
  have HX := Aside0.mk hx
  have HY := Aside0.mk hy
  have HL := Aside0.mk (show xs.length = 4 ∧ ys.length = 4 from ⟨lx, ly⟩)
  have HB := Aside0.mk (Below.refl w.heap.size w)
  rw [lx, ly]
  clear hx hy lx ly
  go_enter Try.func72, Try.ntmps72
  go_wp2
  go_loopg [13] 4 (fun kq v13 w' => ∃ (j : Nat) (y : Int), v13 = .int .i64 y ∧ Aside0 (y = (j : Int)) ∧ Aside0 (j + kq = 4) ∧ Aside0 (xs.take j = ys.take j) ∧ Aside0 (Below w.heap.size w w'))
  case atStart => exact ⟨0, 0, rfl, ⟨rfl⟩, ⟨rfl⟩, ⟨rfl⟩, HB⟩
  case round =>
    clear HB
    obtain ⟨j, y, rfl, HJ, HK, HT, HB⟩ := hrel
    cases gk with
    | zero =>
      have yn : decide (y < 4) = false := decide_eq_false (by have := HJ.out; have := HK.out; omega)
      have HE := Aside0.mk (show decide (xs = ys) = true from decide_eq_true (by
        have h := HT.out
        have h4 := HK.out
        have hl := HL.out
        rw [List.take_of_length_le (by omega), List.take_of_length_le (by omega)] at h
        exact h))
      go_wp2
      go_ret
      exact ⟨by rw [HE.out]; rfl, HB.out⟩
    | succ k1 =>
      have y0 : 0 ≤ y := by have := HJ.out; omega
      have y4 : y < 4 := by have := HJ.out; have := HK.out; omega
      have yn : decide (y < 4) = true := decide_eq_true y4
      have HJ1 := Aside0.mk (show y + 1 = ((j + 1 : Nat) : Int) by have := HJ.out; omega)
      obtain ⟨a1, e1, x1⟩ := Kd.at_int HX.out y y0 (by have := HL.out; omega)
      cases e1
      obtain ⟨a2, e2, x2⟩ := Kd.at_int HY.out y y0 (by have := HL.out; omega)
      cases e2
      replace x1 := (HB.out.cell (World.block_lt_of_cell? w _ x1)).trans x1
      replace x2 := (HB.out.cell (World.block_lt_of_cell? w _ x2)).trans x2
      by_cases he : rd xs y = rd ys y
      · have HT1 := Aside0.mk (take_next xs ys j (by have := HL.out; have := HK.out; omega) (by have := HL.out; have := HK.out; omega) HT.out (by rw [← HJ.out]; exact he))
        have e0 : (rd xs y != rd ys y) = false := by rw [he]; simp
        obtain ⟨p, hp⟩ : ∃ p, p = rd xs y := ⟨_, rfl⟩
        obtain ⟨q, hq⟩ : ∃ q, q = rd ys y := ⟨_, rfl⟩
        rw [← hp] at x1 e0
        rw [← hq] at x2 e0
        clear he hp hq
        go_upto_region 6 with (fail)
        go_quiet (fail)
        go_wp2
        go_roundg k1
        case measure => have := HK.out; omega
        case rel => exact ⟨j + 1, y + 1, rfl, HJ1, ⟨by have := HK.out; omega⟩, HT1, ⟨pw_below_drewN HB.out _⟩⟩
      · have HE := Aside0.mk (show decide (xs = ys) = false from decide_eq_false (fun e => he (by rw [e])))
        have e0 : (rd xs y != rd ys y) = true := bne_iff_ne.2 he
        obtain ⟨p, hp⟩ : ∃ p, p = rd xs y := ⟨_, rfl⟩
        obtain ⟨q, hq⟩ : ∃ q, q = rd ys y := ⟨_, rfl⟩
        rw [← hp] at x1 e0
        rw [← hq] at x2 e0
        clear he hp hq
        go_upto_region 6 with (fail)
        go_quiet (fail)
        go_wp2
        go_ret
        exact ⟨by rw [HE.out]; rfl, pw_below_drewN HB.out _⟩
/-- The closure that looks for a bound that falls. -/
theorem clo1 (B : Nat) (A : Option Addr) (c : Nat) (row : List Int) (f : List Int → Int) (k : Nat) (w : World) (hbk : w.heap[B]? = some (.cells #[.slice A row.length c] 35 (0, 0))) (hr : Kd.C (Kd.int .i64) w A row.length row) (hc : row.length ≤ c) (l : List (List Int)) (hf : ∀ x ∈ l, impl_weighed.f k row x = some (f x)) :
    PredRow 70 #[.pointer (some ⟨B, 0, none⟩)] (fun x => decide (f x < 0)) w l := by
  intro W x A' c' hx hb hxc hC
  have HC := Aside0.mk (impl_weighed.calls k A c row A' c' x (f x) W (Kd.C_below hr hb) hc hC hxc (hf x hx))
  have hc0 : W.cell? ⟨B, 0, none⟩ = some (.slice A row.length c) := (blk_cell (blk_below hbk hb) 0).trans rfl
  obtain ⟨r, hr2⟩ : ∃ r, r = f x := ⟨_, rfl⟩
  rw [← hr2] at HC
  have HR := Aside0.mk hr2
  clear hbk hr hc hf hC hxc hb hx hr2
  show Calls Try.prog 70 #[.slice A' x.length c', .pointer (some ⟨B, 0, none⟩)] W _
  go_enter Try.func70, Try.ntmps70
  go_wp2_with (first | (go_at_call 64; (with_reducible refine HC.out.mono ?_); rintro e w2 ⟨rfl, hd_⟩; have HB2 := Aside0.mk (Drawn0.below hd_); clear hd_))
  go_ret
  exact ⟨by rw [← HR.out]; rfl, HB2.out⟩
/-- The closure that looks for the row itself. -/
theorem clo2 (B : Nat) (A : Option Addr) (c : Nat) (row : List Int) (w : World) (hbk : w.heap[B]? = some (.cells #[.slice A row.length c] 35 (0, 0))) (hr : Kd.C (Kd.int .i64) w A row.length row) (lr : row.length = 4) (l : List (List Int)) (hl : ∀ x ∈ l, x.length = 4) :
    PredRow 71 #[.pointer (some ⟨B, 0, none⟩)] (fun x => decide (x = row)) w l := by
  intro W x A' c' hx hb hxc hC
  have HC := Aside0.mk (EqualC A' A c' c x row W hC (Kd.C_below hr hb) (hl x hx) lr)
  have hc0 : W.cell? ⟨B, 0, none⟩ = some (.slice A row.length c) := (blk_cell (blk_below hbk hb) 0).trans rfl
  obtain ⟨r, hr2⟩ : ∃ r, r = decide (x = row) := ⟨_, rfl⟩
  rw [← hr2] at HC
  have HR := Aside0.mk hr2
  clear hbk hr hC hxc hb hx hr2 lr hl
  show Calls Try.prog 71 #[.slice A' x.length c', .pointer (some ⟨B, 0, none⟩)] W _
  go_enter Try.func71, Try.ntmps71
  go_wp2_with (first | (go_at_call 72; (with_reducible refine HC.out.mono ?_); rintro e w2 ⟨rfl, hd_⟩; have HB2 := Aside0.mk hd_; clear hd_))
  go_ret
  exact ⟨by rw [← HR.out]; rfl, HB2.out⟩
end Go.Proofs.Ytmbninbecclbiaa.ManR
